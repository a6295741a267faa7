/- Each Go function of the law as a Lean function, with the proof that its call comes to just that, for every input; written by hp.py, a program of this session over the kit own print of the translation. -/
import Derived.Test.YtgciphmmfbgkeaaQ0
import Derived.Test.YtgciphmmfbgkeaaQ4
import Derived.Test.YtgciphmmfbgkeaaQ5
import Derived.Test.YtgciphmmfbgkeaaQ8
namespace Go.Proofs.Ytgciphmmfbgkeaa.Q
open Go.RowKit Go.Proofs.YtgciphmmfbgkeaaW.PrintWords Go.Proofs.YtgciphmmfbgkeaaW.PrintLast Go.Proofs.YtgciphmmfbgkeaaW.PrintMore
attribute [local go_sem] max2_int min2_int max_two min_two max_three min_three max_four min_four   -- for this text's walks alone
set_option linter.unusedVariables false
set_option linter.unusedSimpArgs false
open Go.Proofs.Ytgciphmmfbgkeaa.Clo Go.Proofs.Ytgciphmmfbgkeaa.Sin0

/-! ### affine_Inverse: function 26 -/
mutual
def affine_Inverse.j0 : Nat → Int → Int → Int → Int → Int → Int → Option (Int × Int × Int × Int × Int × Int × Int)
  | 0, _, _, _, _, _, _ => none
  | k + 1, x225000, x225001, x225002, x225003, x225004, x225005 => if (wrap64 ((wrap64 (x225000 * x225003)) - (wrap64 (x225001 * x225002)))) = 0 then (some (0, 0, 0, 0, 0, 0, 17)) else (affine_Inverse.j1 k x225000 x225001 x225002 x225003 x225004 x225005 (wrap64 ((wrap64 (x225000 * x225003)) - (wrap64 (x225001 * x225002)))))
def affine_Inverse.j1 : Nat → Int → Int → Int → Int → Int → Int → Int → Option (Int × Int × Int × Int × Int × Int × Int)
  | 0, _, _, _, _, _, _, _ => none
  | k + 1, x225000, x225001, x225002, x225003, x225004, x225005, x228000 => (affine_Inverse_1.f k x225003 x228000).bind fun t228 => ((affine_Inverse_1.f k (wrap64 (-x225001)) x228000).bind fun t229 => ((affine_Inverse_1.f k (wrap64 (-x225002)) x228000).bind fun t230 => ((affine_Inverse_1.f k x225000 x228000).bind fun t231 => ((affine_Check.f t228 t229 t230 t231 0 0).bind fun t233 => (if t233 = 0 then (affine_Inverse.j2 k x225000 x225001 x225002 x225003 x225004 x225005 t228 t229 t230 t231 0 0) else (some (0, 0, 0, 0, 0, 0, 17)))))))
def affine_Inverse.j2 : Nat → Int → Int → Int → Int → Int → Int → Int → Int → Int → Int → Int → Int → Option (Int × Int × Int × Int × Int × Int × Int)
  | 0, _, _, _, _, _, _, _, _, _, _, _, _ => none
  | k + 1, x225000, x225001, x225002, x225003, x225004, x225005, x233000, x233001, x233002, x233003, x233004, x233005 => (affine_dot.f k (wrap64 (-x233000)) (wrap64 (-x233002)) x225004 x225005).bind fun t234 => ((affine_dot.f k (wrap64 (-x233001)) (wrap64 (-x233003)) x225004 x225005).bind fun t235 => ((affine_Check.f x233000 x233001 x233002 x233003 t234 t235).bind fun t236 => (if t236 = 0 then (some (x233000, x233001, x233002, x233003, t234, t235, 0)) else (some (0, 0, 0, 0, 0, 0, 17)))))
end
def affine_Inverse.f (k : Nat) (a0_0 : Int) (a0_1 : Int) (a0_2 : Int) (a0_3 : Int) (a0_4 : Int) (a0_5 : Int) : Option (Int × Int × Int × Int × Int × Int × Int) := (affine_Check.f a0_0 a0_1 a0_2 a0_3 a0_4 a0_5).bind fun t226 => (if t226 = 0 then (affine_Inverse.j0 k a0_0 a0_1 a0_2 a0_3 a0_4 a0_5) else (some (0, 0, 0, 0, 0, 0, t226)))
theorem affine_Inverse.mono_l : ∀ k, (∀ y0 y1 y2 y3 y4 y5, LeO (affine_Inverse.j0 k y0 y1 y2 y3 y4 y5) (affine_Inverse.j0 (k + 1) y0 y1 y2 y3 y4 y5)) ∧ (∀ y0 y1 y2 y3 y4 y5 y6, LeO (affine_Inverse.j1 k y0 y1 y2 y3 y4 y5 y6) (affine_Inverse.j1 (k + 1) y0 y1 y2 y3 y4 y5 y6)) ∧ (∀ y0 y1 y2 y3 y4 y5 y6 y7 y8 y9 y10 y11, LeO (affine_Inverse.j2 k y0 y1 y2 y3 y4 y5 y6 y7 y8 y9 y10 y11) (affine_Inverse.j2 (k + 1) y0 y1 y2 y3 y4 y5 y6 y7 y8 y9 y10 y11))
  | 0 => ⟨fun _ _ _ _ _ _ r h => by simp [affine_Inverse.j0] at h, fun _ _ _ _ _ _ _ r h => by simp [affine_Inverse.j1] at h, fun _ _ _ _ _ _ _ _ _ _ _ _ r h => by simp [affine_Inverse.j2] at h⟩
  | k + 1 => by
    obtain ⟨ih0, ih1, ih2⟩ := affine_Inverse.mono_l k
    refine ⟨?_, ?_, ?_⟩
    · intro y0 y1 y2 y3 y4 y5
      unfold affine_Inverse.j0
      repeat' first
      | (with_reducible exact ih0 _ _ _ _ _ _)
      | (with_reducible exact ih1 _ _ _ _ _ _ _)
      | (with_reducible exact ih2 _ _ _ _ _ _ _ _ _ _ _ _)
      | (with_reducible exact affine_Inverse_1.mono _ _ _)
      | (with_reducible exact affine_dot.mono _ _ _ _ _)
      | (with_reducible exact LeO.refl _)
      | (with_reducible exact LeO.none _)
      | (with_reducible refine LeO.ite ?_ ?_)
      | (with_reducible refine LeO.bind ?_ (fun _ => ?_))
      | exact ih0 _ _ _ _ _ _
      | exact ih1 _ _ _ _ _ _ _
      | exact ih2 _ _ _ _ _ _ _ _ _ _ _ _
      | exact affine_Inverse_1.mono _ _ _
      | exact affine_dot.mono _ _ _ _ _
      | exact LeO.none _
      | refine LeO.ite ?_ ?_
      | refine LeO.bind ?_ (fun _ => ?_)
    · intro y0 y1 y2 y3 y4 y5 y6
      unfold affine_Inverse.j1
      repeat' first
      | (with_reducible exact ih0 _ _ _ _ _ _)
      | (with_reducible exact ih1 _ _ _ _ _ _ _)
      | (with_reducible exact ih2 _ _ _ _ _ _ _ _ _ _ _ _)
      | (with_reducible exact affine_Inverse_1.mono _ _ _)
      | (with_reducible exact affine_dot.mono _ _ _ _ _)
      | (with_reducible exact LeO.refl _)
      | (with_reducible exact LeO.none _)
      | (with_reducible refine LeO.ite ?_ ?_)
      | (with_reducible refine LeO.bind ?_ (fun _ => ?_))
      | exact ih0 _ _ _ _ _ _
      | exact ih1 _ _ _ _ _ _ _
      | exact ih2 _ _ _ _ _ _ _ _ _ _ _ _
      | exact affine_Inverse_1.mono _ _ _
      | exact affine_dot.mono _ _ _ _ _
      | exact LeO.none _
      | refine LeO.ite ?_ ?_
      | refine LeO.bind ?_ (fun _ => ?_)
    · intro y0 y1 y2 y3 y4 y5 y6 y7 y8 y9 y10 y11
      unfold affine_Inverse.j2
      repeat' first
      | (with_reducible exact ih0 _ _ _ _ _ _)
      | (with_reducible exact ih1 _ _ _ _ _ _ _)
      | (with_reducible exact ih2 _ _ _ _ _ _ _ _ _ _ _ _)
      | (with_reducible exact affine_Inverse_1.mono _ _ _)
      | (with_reducible exact affine_dot.mono _ _ _ _ _)
      | (with_reducible exact LeO.refl _)
      | (with_reducible exact LeO.none _)
      | (with_reducible refine LeO.ite ?_ ?_)
      | (with_reducible refine LeO.bind ?_ (fun _ => ?_))
      | exact ih0 _ _ _ _ _ _
      | exact ih1 _ _ _ _ _ _ _
      | exact ih2 _ _ _ _ _ _ _ _ _ _ _ _
      | exact affine_Inverse_1.mono _ _ _
      | exact affine_dot.mono _ _ _ _ _
      | exact LeO.none _
      | refine LeO.ite ?_ ?_
      | refine LeO.bind ?_ (fun _ => ?_)
theorem affine_Inverse.mono : ∀ a0 a1 a2 a3 a4 a5 k, LeO (affine_Inverse.f k a0 a1 a2 a3 a4 a5) (affine_Inverse.f (k + 1) a0 a1 a2 a3 a4 a5) := by
  intro a0 a1 a2 a3 a4 a5 k
  obtain ⟨ih0, ih1, ih2⟩ := affine_Inverse.mono_l k
  unfold affine_Inverse.f
  repeat' first
      | (with_reducible exact ih0 _ _ _ _ _ _)
      | (with_reducible exact ih1 _ _ _ _ _ _ _)
      | (with_reducible exact ih2 _ _ _ _ _ _ _ _ _ _ _ _)
      | (with_reducible exact affine_Inverse_1.mono _ _ _)
      | (with_reducible exact affine_dot.mono _ _ _ _ _)
      | (with_reducible exact LeO.refl _)
      | (with_reducible exact LeO.none _)
      | (with_reducible refine LeO.ite ?_ ?_)
      | (with_reducible refine LeO.bind ?_ (fun _ => ?_))
      | exact ih0 _ _ _ _ _ _
      | exact ih1 _ _ _ _ _ _ _
      | exact ih2 _ _ _ _ _ _ _ _ _ _ _ _
      | exact affine_Inverse_1.mono _ _ _
      | exact affine_dot.mono _ _ _ _ _
      | exact LeO.none _
      | refine LeO.ite ?_ ?_
      | refine LeO.bind ?_ (fun _ => ?_)
def affine_Inverse.T8 : Bool × List (List Nat × List Nat) := (true, [([], []), ([], []), ([1], [1]), ([0, 2], [0, 2]), ([], []), ([], []), ([5], [5]), ([6], [6]), ([4, 7, 3], [4, 7]), ([], []), ([], []), ([10], [10]), ([11], [11]), ([9, 12, 8], [9, 12]), ([], []), ([], []), ([15], [15]), ([14, 16, 13], [14, 16]), ([3, 8, 13, 17], [3, 8, 13, 17]), ([], []), ([19, 18, 17, 0, 1, 2, 3, 4, 5, 6, 7, 8, 9, 10, 11, 12, 13, 14, 15, 16, 17, 18, 19], [18, 19])])
def affine_Inverse.B8 : List Nat := [0, 0, 2, 7, 0, 0, 32, 96, 255, 0, 0, 1024, 3072, 8191, 0, 0, 32768, 131071, 262143, 0, 1048575]
theorem affine_Inverse.tab8 : rtab .any (opsOf Try.f26 8) = affine_Inverse.T8 := by kernel_rfl
theorem affine_Inverse.bits8 : waitsOk affine_Inverse.T8.2 affine_Inverse.B8 = true := by kernel_rfl
set_option maxHeartbeats 8000000 in
set_option maxRecDepth 100000 in
theorem affine_Inverse.calls (k : Nat) (a0_0 : Int) (a0_1 : Int) (a0_2 : Int) (a0_3 : Int) (a0_4 : Int) (a0_5 : Int) (r1 : Int) (r2 : Int) (r3 : Int) (r4 : Int) (r5 : Int) (r6 : Int) (r7 : Int) (w : World) (h : affine_Inverse.f k a0_0 a0_1 a0_2 a0_3 a0_4 a0_5 = some (r1, r2, r3, r4, r5, r6, r7)) :
    Calls Try.prog 26 #[.agg #[.int .i64 a0_0, .int .i64 a0_1, .int .i64 a0_2, .int .i64 a0_3, .int .i64 a0_4, .int .i64 a0_5]] w fun e w' => e = .returned (.tuple #[.agg #[.int .i64 r1, .int .i64 r2, .int .i64 r3, .int .i64 r4, .int .i64 r5, .int .i64 r6], .int .i64 r7]) ∧ Below w.heap.size w w' := by
  have hu23 := Try.underlying23
  have HB := Aside0.mk (Below.refl w.heap.size w)
  have H : ((affine_Check.f a0_0 a0_1 a0_2 a0_3 a0_4 a0_5).bind fun t226 => (if t226 = 0 then (affine_Inverse.j0 k a0_0 a0_1 a0_2 a0_3 a0_4 a0_5) else (some (0, 0, 0, 0, 0, 0, t226)))) = some (r1, r2, r3, r4, r5, r6, r7) := h
  clear h
  replace H := Option.bind_eq_some_iff.mp H
  obtain ⟨t226, A20, H⟩ := H
  replace H : (if t226 = 0 then (affine_Inverse.j0 k a0_0 a0_1 a0_2 a0_3 a0_4 a0_5) else (some (0, 0, 0, 0, 0, 0, t226))) = some (r1, r2, r3, r4, r5, r6, r7) := H
  have A2 := Aside0.mk A20
  clear A20
  have HC3 := Aside0.mk H
  clear H
  go_enter Try.func26, Try.ntmps26
  go_upto_if 11 with (first | ((with_reducible refine gate_dst (N := 1) rfl ?_); refine box_event ?hg (N := 1) ?hd (cs := #[.int .i64 a0_0, .int .i64 a0_1, .int .i64 a0_2, .int .i64 a0_3, .int .i64 a0_4, .int .i64 a0_5]) (t := 23) ?hr ?_; (case hd => rfl); (case hg => rfl); (case hr => first | (go_simp; done) | (go_simp; rfl)); intro gb224 hg w4 hbox hb; have n0_ := Aside0.mk (below_step (by repeat (first | (with_reducible first | exact HB.out | apply lA_ | apply lN_ | apply lD_) | exact HB.out)) hb); have n1_ := Aside0.mk (hbox); have n2_ := Aside0.mk ((by rw [hg]; exact (below_size (by repeat (first | (with_reducible first | exact HB.out | apply lA_ | apply lN_ | apply lD_) | exact HB.out))) : w.heap.size ≤ gb224)); have n3_ := Aside0.mk ((by rw [hg]; exact (below_size (by repeat (first | (with_reducible first | exact HB.out | apply lA_ | apply lN_ | apply lD_) | exact HB.out))) : w.heap.size ≤ gb224)); clear HB; have HB := n0_; have BK224 := n1_; have GW224 := n2_; have GE224 := n3_; clear n0_ n1_ n2_ n3_; clear hb hbox hg) | ((with_reducible refine gate_dst (N := 2) rfl ?_); refine box_event ?hg (N := 2) ?hd (cs := #[.int .i64 0, .int .i64 0, .int .i64 0, .int .i64 0, .int .i64 0, .int .i64 0]) (t := 23) ?hr ?_; (case hd => rfl); (case hg => rfl); (case hr => first | (go_simp; done) | (go_simp; rfl)); intro gb225 hg w5 hbox hb; have n0_ := Aside0.mk (blk_below (g := gb224) (o := .cells #[.int .i64 a0_0, .int .i64 a0_1, .int .i64 a0_2, .int .i64 a0_3, .int .i64 a0_4, .int .i64 a0_5] 23 (0, 0)) (by (with_reducible repeat (first | refine bN_ ?_ _ | refine bD_ ?_ | refine bA_ ?_ _)); exact BK224.out) hb); have n1_ := Aside0.mk (below_step (by repeat (first | (with_reducible first | exact HB.out | apply lA_ | apply lN_ | apply lD_ | refine lS_ ?_ GE224.out) | exact HB.out)) hb); have n2_ := Aside0.mk (hbox); have n3_ := Aside0.mk ((by rw [hg]; exact (below_size (by repeat (first | (with_reducible first | exact HB.out | apply lA_ | apply lN_ | apply lD_ | refine lS_ ?_ GE224.out) | exact HB.out))) : w.heap.size ≤ gb225)); have n4_ := Aside0.mk ((by rw [hg]; exact (below_size (by repeat (first | (with_reducible first | exact HB.out | apply lA_ | apply lN_ | apply lD_ | refine lS_ ?_ GE224.out) | exact HB.out))) : w.heap.size ≤ gb225)); have n5_ := Aside0.mk ((by rw [hg]; exact Nat.ne_of_lt (blk_lt (g := gb224) (o := .cells #[.int .i64 a0_0, .int .i64 a0_1, .int .i64 a0_2, .int .i64 a0_3, .int .i64 a0_4, .int .i64 a0_5] 23 (0, 0)) (by (with_reducible repeat (first | refine bN_ ?_ _ | refine bD_ ?_ | refine bA_ ?_ _)); exact BK224.out)) : gb224 ≠ gb225)); have n6_ := Aside0.mk ((by rw [hg]; exact Nat.ne_of_gt (blk_lt (g := gb224) (o := .cells #[.int .i64 a0_0, .int .i64 a0_1, .int .i64 a0_2, .int .i64 a0_3, .int .i64 a0_4, .int .i64 a0_5] 23 (0, 0)) (by (with_reducible repeat (first | refine bN_ ?_ _ | refine bD_ ?_ | refine bA_ ?_ _)); exact BK224.out)) : gb225 ≠ gb224)); clear BK224; clear HB; have BK224 := n0_; have HB := n1_; have BK225 := n2_; have GW225 := n3_; have GE225 := n4_; have NB224_225 := n5_; have NB225_224 := n6_; clear n0_ n1_ n2_ n3_ n4_ n5_ n6_; clear hb hbox hg; have hnb6 := NB224_225.out; have hnc6 := NB225_224.out; have hcz7_0 : w5.cell? ⟨gb224, 0, none⟩ = some (.int .i64 a0_0) := (blk_cell BK224.out 0).trans rfl; have hcz7_1 : w5.cell? ⟨gb224, 1, none⟩ = some (.int .i64 a0_1) := (blk_cell BK224.out 1).trans rfl; have hcz7_2 : w5.cell? ⟨gb224, 2, none⟩ = some (.int .i64 a0_2) := (blk_cell BK224.out 2).trans rfl; have hcz7_3 : w5.cell? ⟨gb224, 3, none⟩ = some (.int .i64 a0_3) := (blk_cell BK224.out 3).trans rfl; have hcz7_4 : w5.cell? ⟨gb224, 4, none⟩ = some (.int .i64 a0_4) := (blk_cell BK224.out 4).trans rfl; have hcz7_5 : w5.cell? ⟨gb224, 5, none⟩ = some (.int .i64 a0_5) := (blk_cell BK224.out 5).trans rfl; have hfz7_0 := blk_frozen BK224.out 0; have hfz7_1 := blk_frozen BK224.out 1; have hfz7_2 := blk_frozen BK224.out 2; have hfz7_3 := blk_frozen BK224.out 3; have hfz7_4 := blk_frozen BK224.out 4; have hfz7_5 := blk_frozen BK224.out 5) | ((with_reducible refine gate_callee (f := 10) rfl ?_); refine goesL_ (some 9) rfl rfl Try.func10 (by kernel_rfl) rfl #[.agg #[.int .i64 a0_0, .int .i64 a0_1, .int .i64 a0_2, .int .i64 a0_3, .int .i64 a0_4, .int .i64 a0_5]] rfl (by (try simp only [List.map_toArray, List.map_cons, List.map_nil]); first | done | rfl | (simp only [List.length_drop, List.length_take]; rfl)) ?_; (with_reducible refine (affine_Check.calls a0_0 a0_1 a0_2 a0_3 a0_4 a0_5 t226 _ A2.out).mono ?_); rintro e w8 ⟨rfl, hb⟩; refine ⟨_, rfl, ?_⟩; have n0_ := Aside0.mk (blk_below (g := gb224) (o := .cells #[.int .i64 a0_0, .int .i64 a0_1, .int .i64 a0_2, .int .i64 a0_3, .int .i64 a0_4, .int .i64 a0_5] 23 (0, 0)) (by (with_reducible repeat (first | refine bN_ ?_ _ | refine bD_ ?_ | refine bA_ ?_ _)); exact BK224.out) hb); have n1_ := Aside0.mk (blk_below (g := gb225) (o := .cells #[.int .i64 0, .int .i64 0, .int .i64 0, .int .i64 0, .int .i64 0, .int .i64 0] 23 (0, 0)) (by (with_reducible repeat (first | refine bN_ ?_ _ | refine bD_ ?_ | refine bA_ ?_ _)); exact BK225.out) hb); have n2_ := Aside0.mk (below_step (by repeat (first | (with_reducible first | exact HB.out | apply lA_ | apply lN_ | apply lD_ | refine lS_ ?_ GE224.out | refine lS_ ?_ GE225.out) | exact HB.out)) hb); clear BK224; clear BK225; clear HB; have BK224 := n0_; have BK225 := n1_; have HB := n2_; clear n0_ n1_ n2_; (try clear hb); (try clear hb2); (try clear hk); (try clear hi)))
  (try simp only [Act.put, tS_, tZ_, tC_])
  go_cut [] (fun wc => ∃ (kq : Nat) (x226000_2 : Int) (x226001_2 : Int) (x226002_2 : Int) (x226003_2 : Int) (x226004_2 : Int) (x226005_2 : Int), Aside0 (affine_Inverse.j0 kq a0_0 a0_1 a0_2 a0_3 a0_4 a0_5 = some (r1, r2, r3, r4, r5, r6, r7)) ∧ Aside0 (kq ≤ k) ∧ Aside0 (wc.heap[gb224]? = some (.cells #[.int .i64 a0_0, .int .i64 a0_1, .int .i64 a0_2, .int .i64 a0_3, .int .i64 a0_4, .int .i64 a0_5] 23 (0, 0))) ∧ Aside0 (wc.heap[gb225]? = some (.cells #[.int .i64 x226000_2, .int .i64 x226001_2, .int .i64 x226002_2, .int .i64 x226003_2, .int .i64 x226004_2, .int .i64 x226005_2] 23 (0, 0))) ∧ Aside0 (Below w.heap.size w wc))
  case first =>
    have H := HC3.out
    clear HC3
    by_cases c9 : t226 = 0
    · rw [if_pos c9] at H
      have c9b0 : (t226 == 0) = true := beq_iff_eq.mpr c9
      have c9b1 : (t226 != 0) = false := bne_eq_false_iff_eq.mpr c9
      clear c9
      (first | rw [c9b0] | (simp only [i64_w, i32_w]; rw [c9b0]) | skip)
      have H' := Aside0.mk H
      clear H
      go_wp2
      go_meet
      case rel => exact ⟨_, (0), (0), (0), (0), (0), (0), H', ⟨by first | omega | exact Nat.le_refl _⟩, ⟨by (with_reducible repeat (first | refine bN_ ?_ _ | refine bD_ ?_ | refine bA_ ?_ _)); exact BK224.out⟩, ⟨by (with_reducible repeat (first | refine bN_ ?_ _ | refine bD_ ?_ | refine bA_ ?_ _)); exact BK225.out⟩, ⟨by repeat (first | (with_reducible first | exact HB.out | apply lA_ | apply lN_ | apply lD_ | refine lS_ ?_ GE224.out | refine lS_ ?_ GE225.out) | exact HB.out)⟩⟩
    · rw [if_neg c9] at H
      have c9b0 : (t226 == 0) = false := beq_eq_false_iff_ne.mpr c9
      have c9b1 : (t226 != 0) = true := bne_iff_ne.mpr c9
      (first | rw [c9b0] | (simp only [i64_w, i32_w]; rw [c9b0]) | skip)
      simp only [Option.some.injEq, Prod.mk.injEq] at H
      obtain ⟨rfl, rfl, rfl, rfl, rfl, rfl, rfl⟩ := H
      have hnb10 := NB225_224.out
      have hnc10 := NB224_225.out
      have hcz11_0 : w8.cell? ⟨gb225, 0, none⟩ = some (.int .i64 0) := (blk_cell BK225.out 0).trans rfl
      have hcz11_1 : w8.cell? ⟨gb225, 1, none⟩ = some (.int .i64 0) := (blk_cell BK225.out 1).trans rfl
      have hcz11_2 : w8.cell? ⟨gb225, 2, none⟩ = some (.int .i64 0) := (blk_cell BK225.out 2).trans rfl
      have hcz11_3 : w8.cell? ⟨gb225, 3, none⟩ = some (.int .i64 0) := (blk_cell BK225.out 3).trans rfl
      have hcz11_4 : w8.cell? ⟨gb225, 4, none⟩ = some (.int .i64 0) := (blk_cell BK225.out 4).trans rfl
      have hcz11_5 : w8.cell? ⟨gb225, 5, none⟩ = some (.int .i64 0) := (blk_cell BK225.out 5).trans rfl
      have hfz11_0 := blk_frozen BK225.out 0
      have hfz11_1 := blk_frozen BK225.out 1
      have hfz11_2 := blk_frozen BK225.out 2
      have hfz11_3 := blk_frozen BK225.out 3
      have hfz11_4 := blk_frozen BK225.out 4
      have hfz11_5 := blk_frozen BK225.out 5
      go_wp2
      refine bodyPost_ret (results_ct rfl _ _ gb225 23 #[.int .i64 0, .int .i64 0, .int .i64 0, .int .i64 0, .int .i64 0, .int .i64 0] (0, 0) _ rfl (by (with_reducible repeat (first | refine bN_ ?_ _ | refine bD_ ?_ | refine bA_ ?_ _)); refine blk_put (cs := #[.int .i64 0, .int .i64 0, .int .i64 0, .int .i64 0, .int .i64 0, .int .i64 0]) ?_ 5 _ rfl; (with_reducible repeat (first | refine bN_ ?_ _ | refine bD_ ?_ | refine bA_ ?_ _)); refine blk_put (cs := #[.int .i64 0, .int .i64 0, .int .i64 0, .int .i64 0, .int .i64 0, .int .i64 0]) ?_ 4 _ rfl; (with_reducible repeat (first | refine bN_ ?_ _ | refine bD_ ?_ | refine bA_ ?_ _)); refine blk_put (cs := #[.int .i64 0, .int .i64 0, .int .i64 0, .int .i64 0, .int .i64 0, .int .i64 0]) ?_ 3 _ rfl; (with_reducible repeat (first | refine bN_ ?_ _ | refine bD_ ?_ | refine bA_ ?_ _)); refine blk_put (cs := #[.int .i64 0, .int .i64 0, .int .i64 0, .int .i64 0, .int .i64 0, .int .i64 0]) ?_ 2 _ rfl; (with_reducible repeat (first | refine bN_ ?_ _ | refine bD_ ?_ | refine bA_ ?_ _)); refine blk_put (cs := #[.int .i64 0, .int .i64 0, .int .i64 0, .int .i64 0, .int .i64 0, .int .i64 0]) ?_ 1 _ rfl; (with_reducible repeat (first | refine bN_ ?_ _ | refine bD_ ?_ | refine bA_ ?_ _)); refine blk_put (cs := #[.int .i64 0, .int .i64 0, .int .i64 0, .int .i64 0, .int .i64 0, .int .i64 0]) ?_ 0 _ rfl; (with_reducible repeat (first | refine bN_ ?_ _ | refine bD_ ?_ | refine bA_ ?_ _)); exact BK225.out) Try.underlying23 rfl (by kernel_rfl)) rfl ?_
      exact ⟨by first | rfl | (simp [errW_none, errW_some] <;> rfl) | (simp [*, errW_none, errW_some] <;> rfl), by repeat (first | (with_reducible first | exact HB.out | apply lA_ | apply lN_ | apply lD_ | refine lS_ ?_ GE224.out | refine lS_ ?_ GE225.out) | exact HB.out)⟩
  clear HC3
  try clear c1
  try clear c2
  try clear p2
  try clear c6
  try clear c9
  try clear c9b0
  try clear c9b1
  try clear c10
  try clear hcz11_0
  try clear hcz11_1
  try clear hcz11_2
  try clear hcz11_3
  try clear hcz11_4
  try clear hcz11_5
  try clear hcz7_0
  try clear hcz7_1
  try clear hcz7_2
  try clear hcz7_3
  try clear hcz7_4
  try clear hcz7_5
  try clear hfz11_0
  try clear hfz11_1
  try clear hfz11_2
  try clear hfz11_3
  try clear hfz11_4
  try clear hfz11_5
  try clear hfz7_0
  try clear hfz7_1
  try clear hfz7_2
  try clear hfz7_3
  try clear hfz7_4
  try clear hfz7_5
  obtain ⟨kq, x226000_2, x226001_2, x226002_2, x226003_2, x226004_2, x226005_2, HA, HJ2, BK224, BK225, HB⟩ := hcut
  cases kq with
  | zero => exact absurd HA.out (by simp [affine_Inverse.j0])
  | succ kj2 =>
    have H := HA.out
    clear HA
    simp only [affine_Inverse.j0] at H
    have HC12 := Aside0.mk H
    clear H
    have hnb13 := NB224_225.out
    have hnc13 := NB225_224.out
    have hcz14_0 : wc.cell? ⟨gb224, 0, none⟩ = some (.int .i64 a0_0) := (blk_cell BK224.out 0).trans rfl
    have hcz14_1 : wc.cell? ⟨gb224, 1, none⟩ = some (.int .i64 a0_1) := (blk_cell BK224.out 1).trans rfl
    have hcz14_2 : wc.cell? ⟨gb224, 2, none⟩ = some (.int .i64 a0_2) := (blk_cell BK224.out 2).trans rfl
    have hcz14_3 : wc.cell? ⟨gb224, 3, none⟩ = some (.int .i64 a0_3) := (blk_cell BK224.out 3).trans rfl
    have hcz14_4 : wc.cell? ⟨gb224, 4, none⟩ = some (.int .i64 a0_4) := (blk_cell BK224.out 4).trans rfl
    have hcz14_5 : wc.cell? ⟨gb224, 5, none⟩ = some (.int .i64 a0_5) := (blk_cell BK224.out 5).trans rfl
    have hfz14_0 := blk_frozen BK224.out 0
    have hfz14_1 := blk_frozen BK224.out 1
    have hfz14_2 := blk_frozen BK224.out 2
    have hfz14_3 := blk_frozen BK224.out 3
    have hfz14_4 := blk_frozen BK224.out 4
    have hfz14_5 := blk_frozen BK224.out 5
    go_upto_if 26 with (first | ((with_reducible refine gate_dst (N := 5) rfl ?_); refine box_event ?hg (N := 5) ?hd (cs := #[.int .i64 0]) (t := 3) ?hr ?_; (case hd => rfl); (case hg => rfl); (case hr => first | (go_simp; done) | (go_simp; rfl)); intro gb227 hg w15 hbox hb; have n0_ := Aside0.mk (blk_below (g := gb224) (o := .cells #[.int .i64 a0_0, .int .i64 a0_1, .int .i64 a0_2, .int .i64 a0_3, .int .i64 a0_4, .int .i64 a0_5] 23 (0, 0)) (by (with_reducible repeat (first | refine bN_ ?_ _ | refine bD_ ?_ | refine bA_ ?_ _)); exact BK224.out) hb); have n1_ := Aside0.mk (blk_below (g := gb225) (o := .cells #[.int .i64 x226000_2, .int .i64 x226001_2, .int .i64 x226002_2, .int .i64 x226003_2, .int .i64 x226004_2, .int .i64 x226005_2] 23 (0, 0)) (by (with_reducible repeat (first | refine bN_ ?_ _ | refine bD_ ?_ | refine bA_ ?_ _)); exact BK225.out) hb); have n2_ := Aside0.mk (below_step (by repeat (first | (with_reducible first | exact HB.out | apply lA_ | apply lN_ | apply lD_ | refine lS_ ?_ GE224.out | refine lS_ ?_ GE225.out) | exact HB.out)) hb); have n3_ := Aside0.mk (hbox); have n4_ := Aside0.mk ((by rw [hg]; exact (below_size (by repeat (first | (with_reducible first | exact HB.out | apply lA_ | apply lN_ | apply lD_ | refine lS_ ?_ GE224.out | refine lS_ ?_ GE225.out) | exact HB.out))) : w.heap.size ≤ gb227)); have n5_ := Aside0.mk ((by rw [hg]; exact (below_size (by repeat (first | (with_reducible first | exact HB.out | apply lA_ | apply lN_ | apply lD_ | refine lS_ ?_ GE224.out | refine lS_ ?_ GE225.out) | exact HB.out))) : w.heap.size ≤ gb227)); have n6_ := Aside0.mk ((by rw [hg]; exact Nat.ne_of_lt (blk_lt (g := gb224) (o := .cells #[.int .i64 a0_0, .int .i64 a0_1, .int .i64 a0_2, .int .i64 a0_3, .int .i64 a0_4, .int .i64 a0_5] 23 (0, 0)) (by (with_reducible repeat (first | refine bN_ ?_ _ | refine bD_ ?_ | refine bA_ ?_ _)); exact BK224.out)) : gb224 ≠ gb227)); have n7_ := Aside0.mk ((by rw [hg]; exact Nat.ne_of_gt (blk_lt (g := gb224) (o := .cells #[.int .i64 a0_0, .int .i64 a0_1, .int .i64 a0_2, .int .i64 a0_3, .int .i64 a0_4, .int .i64 a0_5] 23 (0, 0)) (by (with_reducible repeat (first | refine bN_ ?_ _ | refine bD_ ?_ | refine bA_ ?_ _)); exact BK224.out)) : gb227 ≠ gb224)); have n8_ := Aside0.mk ((by rw [hg]; exact Nat.ne_of_lt (blk_lt (g := gb225) (o := .cells #[.int .i64 x226000_2, .int .i64 x226001_2, .int .i64 x226002_2, .int .i64 x226003_2, .int .i64 x226004_2, .int .i64 x226005_2] 23 (0, 0)) (by (with_reducible repeat (first | refine bN_ ?_ _ | refine bD_ ?_ | refine bA_ ?_ _)); exact BK225.out)) : gb225 ≠ gb227)); have n9_ := Aside0.mk ((by rw [hg]; exact Nat.ne_of_gt (blk_lt (g := gb225) (o := .cells #[.int .i64 x226000_2, .int .i64 x226001_2, .int .i64 x226002_2, .int .i64 x226003_2, .int .i64 x226004_2, .int .i64 x226005_2] 23 (0, 0)) (by (with_reducible repeat (first | refine bN_ ?_ _ | refine bD_ ?_ | refine bA_ ?_ _)); exact BK225.out)) : gb227 ≠ gb225)); clear BK224; clear BK225; clear HB; have BK224 := n0_; have BK225 := n1_; have HB := n2_; have BK227 := n3_; have GW227 := n4_; have GE227 := n5_; have NB224_227 := n6_; have NB227_224 := n7_; have NB225_227 := n8_; have NB227_225 := n9_; clear n0_ n1_ n2_ n3_ n4_ n5_ n6_ n7_ n8_ n9_; clear hb hbox hg; have hnb16 := NB227_224.out; have hnc16 := NB224_227.out; have hnb17 := NB227_225.out; have hnc17 := NB225_227.out; have hcz18_0 : w15.cell? ⟨gb227, 0, none⟩ = some (.int .i64 0) := (blk_cell BK227.out 0).trans rfl; have hfz18_0 := blk_frozen BK227.out 0))
    (try simp only [Act.put, tS_, tZ_, tC_])
    go_cut [] (fun wc => ∃ (kq : Nat) (x226000_11 : Int) (x226001_11 : Int) (x226002_11 : Int) (x226003_11 : Int) (x226004_11 : Int) (x226005_11 : Int), Aside0 (affine_Inverse.j1 kq a0_0 a0_1 a0_2 a0_3 a0_4 a0_5 (wrap64 ((wrap64 (a0_0 * a0_3)) - (wrap64 (a0_1 * a0_2)))) = some (r1, r2, r3, r4, r5, r6, r7)) ∧ Aside0 (kq ≤ kj2) ∧ Aside0 (wc.heap[gb224]? = some (.cells #[.int .i64 a0_0, .int .i64 a0_1, .int .i64 a0_2, .int .i64 a0_3, .int .i64 a0_4, .int .i64 a0_5] 23 (0, 0))) ∧ Aside0 (wc.heap[gb225]? = some (.cells #[.int .i64 x226000_11, .int .i64 x226001_11, .int .i64 x226002_11, .int .i64 x226003_11, .int .i64 x226004_11, .int .i64 x226005_11] 23 (0, 0))) ∧ Aside0 (wc.heap[gb227]? = some (.cells #[.int .i64 (wrap64 ((wrap64 (a0_0 * a0_3)) - (wrap64 (a0_1 * a0_2))))] 3 (0, 0))) ∧ Aside0 (Below w.heap.size w wc))
    case first =>
      have H := HC12.out
      clear HC12
      by_cases c19 : (wrap64 ((wrap64 (a0_0 * a0_3)) - (wrap64 (a0_1 * a0_2)))) = 0
      · rw [if_pos c19] at H
        have c19b0 : ((wrap64 ((wrap64 (a0_0 * a0_3)) - (wrap64 (a0_1 * a0_2)))) == 0) = true := beq_iff_eq.mpr c19
        have c19b1 : ((wrap64 ((wrap64 (a0_0 * a0_3)) - (wrap64 (a0_1 * a0_2)))) != 0) = false := bne_eq_false_iff_eq.mpr c19
        clear c19
        (first | rw [c19b0] | (simp only [i64_w, i32_w]; rw [c19b0]) | skip)
        simp only [Option.some.injEq, Prod.mk.injEq] at H
        obtain ⟨rfl, rfl, rfl, rfl, rfl, rfl, rfl⟩ := H
        have hnb20 := NB225_224.out
        have hnc20 := NB224_225.out
        have hnb21 := NB225_227.out
        have hnc21 := NB227_225.out
        have hcz22_0 : w15.cell? ⟨gb225, 0, none⟩ = some (.int .i64 x226000_2) := (blk_cell BK225.out 0).trans rfl
        have hcz22_1 : w15.cell? ⟨gb225, 1, none⟩ = some (.int .i64 x226001_2) := (blk_cell BK225.out 1).trans rfl
        have hcz22_2 : w15.cell? ⟨gb225, 2, none⟩ = some (.int .i64 x226002_2) := (blk_cell BK225.out 2).trans rfl
        have hcz22_3 : w15.cell? ⟨gb225, 3, none⟩ = some (.int .i64 x226003_2) := (blk_cell BK225.out 3).trans rfl
        have hcz22_4 : w15.cell? ⟨gb225, 4, none⟩ = some (.int .i64 x226004_2) := (blk_cell BK225.out 4).trans rfl
        have hcz22_5 : w15.cell? ⟨gb225, 5, none⟩ = some (.int .i64 x226005_2) := (blk_cell BK225.out 5).trans rfl
        have hfz22_0 := blk_frozen BK225.out 0
        have hfz22_1 := blk_frozen BK225.out 1
        have hfz22_2 := blk_frozen BK225.out 2
        have hfz22_3 := blk_frozen BK225.out 3
        have hfz22_4 := blk_frozen BK225.out 4
        have hfz22_5 := blk_frozen BK225.out 5
        go_wp2
        refine bodyPost_ret (results_ct rfl _ _ gb225 23 #[.int .i64 0, .int .i64 0, .int .i64 0, .int .i64 0, .int .i64 0, .int .i64 0] (0, 0) _ rfl (by (with_reducible repeat (first | refine bN_ ?_ _ | refine bD_ ?_ | refine bA_ ?_ _)); refine blk_put (cs := #[.int .i64 0, .int .i64 0, .int .i64 0, .int .i64 0, .int .i64 0, .int .i64 x226005_2]) ?_ 5 _ rfl; (with_reducible repeat (first | refine bN_ ?_ _ | refine bD_ ?_ | refine bA_ ?_ _)); refine blk_put (cs := #[.int .i64 0, .int .i64 0, .int .i64 0, .int .i64 0, .int .i64 x226004_2, .int .i64 x226005_2]) ?_ 4 _ rfl; (with_reducible repeat (first | refine bN_ ?_ _ | refine bD_ ?_ | refine bA_ ?_ _)); refine blk_put (cs := #[.int .i64 0, .int .i64 0, .int .i64 0, .int .i64 x226003_2, .int .i64 x226004_2, .int .i64 x226005_2]) ?_ 3 _ rfl; (with_reducible repeat (first | refine bN_ ?_ _ | refine bD_ ?_ | refine bA_ ?_ _)); refine blk_put (cs := #[.int .i64 0, .int .i64 0, .int .i64 x226002_2, .int .i64 x226003_2, .int .i64 x226004_2, .int .i64 x226005_2]) ?_ 2 _ rfl; (with_reducible repeat (first | refine bN_ ?_ _ | refine bD_ ?_ | refine bA_ ?_ _)); refine blk_put (cs := #[.int .i64 0, .int .i64 x226001_2, .int .i64 x226002_2, .int .i64 x226003_2, .int .i64 x226004_2, .int .i64 x226005_2]) ?_ 1 _ rfl; (with_reducible repeat (first | refine bN_ ?_ _ | refine bD_ ?_ | refine bA_ ?_ _)); refine blk_put (cs := #[.int .i64 x226000_2, .int .i64 x226001_2, .int .i64 x226002_2, .int .i64 x226003_2, .int .i64 x226004_2, .int .i64 x226005_2]) ?_ 0 _ rfl; (with_reducible repeat (first | refine bN_ ?_ _ | refine bD_ ?_ | refine bA_ ?_ _)); refine blk_far ?_ NB225_227.out _; (with_reducible repeat (first | refine bN_ ?_ _ | refine bD_ ?_ | refine bA_ ?_ _)); exact BK225.out) Try.underlying23 rfl (by kernel_rfl)) rfl ?_
        exact ⟨by first | rfl | (simp [errW_none, errW_some] <;> rfl) | (simp [*, errW_none, errW_some] <;> rfl), by repeat (first | (with_reducible first | exact HB.out | apply lA_ | apply lN_ | apply lD_ | refine lS_ ?_ GE224.out | refine lS_ ?_ GE225.out | refine lS_ ?_ GE227.out) | exact HB.out)⟩
      · rw [if_neg c19] at H
        have c19b0 : ((wrap64 ((wrap64 (a0_0 * a0_3)) - (wrap64 (a0_1 * a0_2)))) == 0) = false := beq_eq_false_iff_ne.mpr c19
        have c19b1 : ((wrap64 ((wrap64 (a0_0 * a0_3)) - (wrap64 (a0_1 * a0_2)))) != 0) = true := bne_iff_ne.mpr c19
        (first | rw [c19b0] | (simp only [i64_w, i32_w]; rw [c19b0]) | skip)
        have H' := Aside0.mk H
        clear H
        go_wp2
        go_meet
        case rel => exact ⟨_, (x226000_2), (x226001_2), (x226002_2), (x226003_2), (x226004_2), (x226005_2), H', ⟨by have := HJ2.out; first | omega | exact Nat.le_refl _⟩, ⟨by (with_reducible repeat (first | refine bN_ ?_ _ | refine bD_ ?_ | refine bA_ ?_ _)); refine blk_far ?_ NB224_227.out _; (with_reducible repeat (first | refine bN_ ?_ _ | refine bD_ ?_ | refine bA_ ?_ _)); exact BK224.out⟩, ⟨by (with_reducible repeat (first | refine bN_ ?_ _ | refine bD_ ?_ | refine bA_ ?_ _)); refine blk_far ?_ NB225_227.out _; (with_reducible repeat (first | refine bN_ ?_ _ | refine bD_ ?_ | refine bA_ ?_ _)); exact BK225.out⟩, ⟨by (with_reducible repeat (first | refine bN_ ?_ _ | refine bD_ ?_ | refine bA_ ?_ _)); refine blk_put (cs := #[.int .i64 0]) ?_ 0 _ rfl; (with_reducible repeat (first | refine bN_ ?_ _ | refine bD_ ?_ | refine bA_ ?_ _)); exact BK227.out⟩, ⟨by repeat (first | (with_reducible first | exact HB.out | apply lA_ | apply lN_ | apply lD_ | refine lS_ ?_ GE224.out | refine lS_ ?_ GE225.out | refine lS_ ?_ GE227.out) | exact HB.out)⟩⟩
    clear HC12
    try clear c1
    try clear c2
    try clear p2
    try clear c6
    try clear p6
    try clear c9
    try clear c9b0
    try clear c9b1
    try clear c10
    try clear c13
    try clear c16
    try clear c17
    try clear c19
    try clear c19b0
    try clear c19b1
    try clear c20
    try clear c21
    try clear hcz11_0
    try clear hcz11_1
    try clear hcz11_2
    try clear hcz11_3
    try clear hcz11_4
    try clear hcz11_5
    try clear hcz14_0
    try clear hcz14_1
    try clear hcz14_2
    try clear hcz14_3
    try clear hcz14_4
    try clear hcz14_5
    try clear hcz18_0
    try clear hcz22_0
    try clear hcz22_1
    try clear hcz22_2
    try clear hcz22_3
    try clear hcz22_4
    try clear hcz22_5
    try clear hcz7_0
    try clear hcz7_1
    try clear hcz7_2
    try clear hcz7_3
    try clear hcz7_4
    try clear hcz7_5
    try clear hfz11_0
    try clear hfz11_1
    try clear hfz11_2
    try clear hfz11_3
    try clear hfz11_4
    try clear hfz11_5
    try clear hfz14_0
    try clear hfz14_1
    try clear hfz14_2
    try clear hfz14_3
    try clear hfz14_4
    try clear hfz14_5
    try clear hfz18_0
    try clear hfz22_0
    try clear hfz22_1
    try clear hfz22_2
    try clear hfz22_3
    try clear hfz22_4
    try clear hfz22_5
    try clear hfz7_0
    try clear hfz7_1
    try clear hfz7_2
    try clear hfz7_3
    try clear hfz7_4
    try clear hfz7_5
    try clear p2
    obtain ⟨kq, x226000_11, x226001_11, x226002_11, x226003_11, x226004_11, x226005_11, HA, HJ11, BK224, BK225, BK227, HB⟩ := hcut
    cases kq with
    | zero => exact absurd HA.out (by simp [affine_Inverse.j1])
    | succ kj11 =>
      have H := HA.out
      clear HA
      simp only [affine_Inverse.j1] at H
      replace H := Option.bind_eq_some_iff.mp H
      obtain ⟨t228, A230, H⟩ := H
      replace H : ((affine_Inverse_1.f kj11 (wrap64 (-a0_1)) (wrap64 ((wrap64 (a0_0 * a0_3)) - (wrap64 (a0_1 * a0_2))))).bind fun t229 => ((affine_Inverse_1.f kj11 (wrap64 (-a0_2)) (wrap64 ((wrap64 (a0_0 * a0_3)) - (wrap64 (a0_1 * a0_2))))).bind fun t230 => ((affine_Inverse_1.f kj11 a0_0 (wrap64 ((wrap64 (a0_0 * a0_3)) - (wrap64 (a0_1 * a0_2))))).bind fun t231 => ((affine_Check.f t228 t229 t230 t231 0 0).bind fun t233 => (if t233 = 0 then (affine_Inverse.j2 kj11 a0_0 a0_1 a0_2 a0_3 a0_4 a0_5 t228 t229 t230 t231 0 0) else (some (0, 0, 0, 0, 0, 0, 17))))))) = some (r1, r2, r3, r4, r5, r6, r7) := H
      have A23 := Aside0.mk A230
      clear A230
      replace H := Option.bind_eq_some_iff.mp H
      obtain ⟨t229, A240, H⟩ := H
      replace H : ((affine_Inverse_1.f kj11 (wrap64 (-a0_2)) (wrap64 ((wrap64 (a0_0 * a0_3)) - (wrap64 (a0_1 * a0_2))))).bind fun t230 => ((affine_Inverse_1.f kj11 a0_0 (wrap64 ((wrap64 (a0_0 * a0_3)) - (wrap64 (a0_1 * a0_2))))).bind fun t231 => ((affine_Check.f t228 t229 t230 t231 0 0).bind fun t233 => (if t233 = 0 then (affine_Inverse.j2 kj11 a0_0 a0_1 a0_2 a0_3 a0_4 a0_5 t228 t229 t230 t231 0 0) else (some (0, 0, 0, 0, 0, 0, 17)))))) = some (r1, r2, r3, r4, r5, r6, r7) := H
      have A24 := Aside0.mk A240
      clear A240
      replace H := Option.bind_eq_some_iff.mp H
      obtain ⟨t230, A250, H⟩ := H
      replace H : ((affine_Inverse_1.f kj11 a0_0 (wrap64 ((wrap64 (a0_0 * a0_3)) - (wrap64 (a0_1 * a0_2))))).bind fun t231 => ((affine_Check.f t228 t229 t230 t231 0 0).bind fun t233 => (if t233 = 0 then (affine_Inverse.j2 kj11 a0_0 a0_1 a0_2 a0_3 a0_4 a0_5 t228 t229 t230 t231 0 0) else (some (0, 0, 0, 0, 0, 0, 17))))) = some (r1, r2, r3, r4, r5, r6, r7) := H
      have A25 := Aside0.mk A250
      clear A250
      replace H := Option.bind_eq_some_iff.mp H
      obtain ⟨t231, A260, H⟩ := H
      replace H : ((affine_Check.f t228 t229 t230 t231 0 0).bind fun t233 => (if t233 = 0 then (affine_Inverse.j2 kj11 a0_0 a0_1 a0_2 a0_3 a0_4 a0_5 t228 t229 t230 t231 0 0) else (some (0, 0, 0, 0, 0, 0, 17)))) = some (r1, r2, r3, r4, r5, r6, r7) := H
      have A26 := Aside0.mk A260
      clear A260
      replace H := Option.bind_eq_some_iff.mp H
      obtain ⟨t233, A270, H⟩ := H
      replace H : (if t233 = 0 then (affine_Inverse.j2 kj11 a0_0 a0_1 a0_2 a0_3 a0_4 a0_5 t228 t229 t230 t231 0 0) else (some (0, 0, 0, 0, 0, 0, 17))) = some (r1, r2, r3, r4, r5, r6, r7) := H
      have A27 := Aside0.mk A270
      clear A270
      have HC28 := Aside0.mk H
      clear H
      try go_wp2
      have n0_ := Aside0.mk (blk_drew BK224.out)
      have n1_ := Aside0.mk (blk_drew BK225.out)
      have n2_ := Aside0.mk (blk_drew BK227.out)
      have n3_ := Aside0.mk (lD_ HB.out)
      clear BK224 BK225 BK227 HB
      have BK224 := n0_; have BK225 := n1_; have BK227 := n2_; have HB := n3_
      clear n0_ n1_ n2_ n3_
      refine start_ (n := 21) (S := fun w' => True) (ds := []) #[false, false, false, false, false, false, false, false, false, false, false, false, false, false, false, false, false, false, false, false, false] (by kernel_rfl) rfl rfl trivial (fun hHeld => ?_); refine with_tabW affine_Inverse.tab8 affine_Inverse.bits8 (fun HT_ HW_ => ?_)
      generalize wc.drew = w29 at BK224 BK225 BK227 HB hHeld ⊢
      refine pure_ (i := 0) (N := some 29) (v := ?_) (a' := ?_) #[true, false, false, false, false, false, false, false, false, false, false, false, false, false, false, false, false, false, false, false, false] rfl rfl (any_of HT_.out (by kernel_rfl)) (fun _ _ _ h => h) (Or.inl ⟨by rfl, ?_⟩) ?_ ?_
      rotate_left
      · intro w'
        go_simp
        with_reducible rfl
      rotate_left
      · simp only [Act.put, tS_, tZ_, tC_, i64_w, i32_w]
        rfl
      refine pure_ (i := 1) (N := some 30) (v := ?_) (a' := ?_) #[true, true, false, false, false, false, false, false, false, false, false, false, false, false, false, false, false, false, false, false, false] rfl rfl (any_of HT_.out (by kernel_rfl)) (fun _ _ _ h => h) (Or.inl ⟨by rfl, ?_⟩) ?_ ?_
      rotate_left
      · intro w'
        go_simp
        with_reducible rfl
      rotate_left
      · simp only [Act.put, tS_, tZ_, tC_, i64_w, i32_w]
        rfl
      refine pure_ (i := 4) (N := some 33) (v := ?_) (a' := ?_) #[true, true, false, false, true, false, false, false, false, false, false, false, false, false, false, false, false, false, false, false, false] rfl rfl (any_of HT_.out (by kernel_rfl)) (fun _ _ _ h => h) (Or.inl ⟨by rfl, ?_⟩) ?_ ?_
      rotate_left
      · intro w'
        go_simp
        with_reducible rfl
      rotate_left
      · simp only [Act.put, tS_, tZ_, tC_, i64_w, i32_w]
        rfl
      refine pure_ (i := 5) (N := some 34) (v := ?_) (a' := ?_) #[true, true, false, false, true, true, false, false, false, false, false, false, false, false, false, false, false, false, false, false, false] rfl rfl (any_of HT_.out (by kernel_rfl)) (fun _ _ _ h => h) (Or.inl ⟨by rfl, ?_⟩) ?_ ?_
      rotate_left
      · intro w'
        go_simp
        with_reducible rfl
      rotate_left
      · simp only [Act.put, tS_, tZ_, tC_, i64_w, i32_w]
        rfl
      refine pure_ (i := 9) (N := some 38) (v := ?_) (a' := ?_) #[true, true, false, false, true, true, false, false, false, true, false, false, false, false, false, false, false, false, false, false, false] rfl rfl (any_of HT_.out (by kernel_rfl)) (fun _ _ _ h => h) (Or.inl ⟨by rfl, ?_⟩) ?_ ?_
      rotate_left
      · intro w'
        go_simp
        with_reducible rfl
      rotate_left
      · simp only [Act.put, tS_, tZ_, tC_, i64_w, i32_w]
        rfl
      refine pure_ (i := 10) (N := some 39) (v := ?_) (a' := ?_) #[true, true, false, false, true, true, false, false, false, true, true, false, false, false, false, false, false, false, false, false, false] rfl rfl (any_of HT_.out (by kernel_rfl)) (fun _ _ _ h => h) (Or.inl ⟨by rfl, ?_⟩) ?_ ?_
      rotate_left
      · intro w'
        go_simp
        with_reducible rfl
      rotate_left
      · simp only [Act.put, tS_, tZ_, tC_, i64_w, i32_w]
        rfl
      refine pure_ (i := 14) (N := some 43) (v := ?_) (a' := ?_) #[true, true, false, false, true, true, false, false, false, true, true, false, false, false, true, false, false, false, false, false, false] rfl rfl (any_of HT_.out (by kernel_rfl)) (fun _ _ _ h => h) (Or.inl ⟨by rfl, ?_⟩) ?_ ?_
      rotate_left
      · intro w'
        go_simp
        with_reducible rfl
      rotate_left
      · simp only [Act.put, tS_, tZ_, tC_, i64_w, i32_w]
        rfl
      refine pure_ (i := 15) (N := some 44) (v := ?_) (a' := ?_) #[true, true, false, false, true, true, false, false, false, true, true, false, false, false, true, true, false, false, false, false, false] rfl rfl (any_of HT_.out (by kernel_rfl)) (fun _ _ _ h => h) (Or.inl ⟨by rfl, ?_⟩) ?_ ?_
      rotate_left
      · intro w'
        go_simp
        with_reducible rfl
      rotate_left
      · simp only [Act.put, tS_, tZ_, tC_, i64_w, i32_w]
        rfl
      refine inv_at [2, 3, 6, 7, 8, 11, 12, 13, 16, 17, 18, 19, 20] (fun a0_ b a w' => ∃ (gb232 : Nat) (m19_ : Value), a = putSel a0_ b [(2, 31, .int .i64 a0_3), (3, 32, .int .i64 t228), (6, 35, .int .i64 a0_1), (7, 36, .int .i64 (wrap64 (-a0_1))), (8, 37, .int .i64 t229), (11, 40, .int .i64 a0_2), (12, 41, .int .i64 (wrap64 (-a0_2))), (13, 42, .int .i64 t230), (16, 45, .int .i64 a0_0), (17, 46, .int .i64 t231), (18, 47, .agg #[.int .i64 t228, .int .i64 t229, .int .i64 t230, .int .i64 t231, .int .i64 0, .int .i64 0]), (19, 7, m19_)] ∧ (w'.heap[gb224]? = some (.cells #[.int .i64 a0_0, .int .i64 a0_1, .int .i64 a0_2, .int .i64 a0_3, .int .i64 a0_4, .int .i64 a0_5] 23 (0, 0))) ∧ (w'.heap[gb225]? = some (.cells #[.int .i64 x226000_11, .int .i64 x226001_11, .int .i64 x226002_11, .int .i64 x226003_11, .int .i64 x226004_11, .int .i64 x226005_11] 23 (0, 0))) ∧ (w'.heap[gb227]? = some (.cells #[.int .i64 (wrap64 ((wrap64 (a0_0 * a0_3)) - (wrap64 (a0_1 * a0_2))))] 3 (0, 0))) ∧ (Below w.heap.size w w') ∧ (b 19 = true → b 20 = false → w'.heap[gb232]? = some (.cells #[.int .i64 0, .int .i64 0, .int .i64 0, .int .i64 0, .int .i64 0, .int .i64 0] 23 (0, 0))) ∧ (b 19 = true → w.heap.size ≤ gb232) ∧ (b 19 = true → w.heap.size ≤ gb232) ∧ (b 19 = true → gb224 ≠ gb232) ∧ (b 19 = true → gb232 ≠ gb224) ∧ (b 19 = true → gb225 ≠ gb232) ∧ (b 19 = true → gb232 ≠ gb225) ∧ (b 19 = true → gb227 ≠ gb232) ∧ (b 19 = true → gb232 ≠ gb227) ∧ (b 20 = true → w'.heap[gb232]? = some (.cells #[.int .i64 t228, .int .i64 t229, .int .i64 t230, .int .i64 t231, .int .i64 0, .int .i64 0] 23 (0, 0))) ∧ (b 19 = true → (m19_ : Value) = .pointer (some ⟨gb232, 0, none⟩))) HT_.out HW_.out (by kernel_rfl) (by kernel_rfl) ?_ ?_ ?_
      · exact ⟨0, .bool false, by simp only [putSel, Bool.false_eq_true, if_false], BK224.out, BK225.out, BK227.out, HB.out, fun h_ => absurd h_ (by decide), fun h_ => absurd h_ (by decide), fun h_ => absurd h_ (by decide), fun h_ => absurd h_ (by decide), fun h_ => absurd h_ (by decide), fun h_ => absurd h_ (by decide), fun h_ => absurd h_ (by decide), fun h_ => absurd h_ (by decide), fun h_ => absurd h_ (by decide), fun h_ => absurd h_ (by decide), fun h_ => absurd h_ (by decide)⟩
      · skip
        clear BK224 BK225 BK227 HB
        refine steps_cons ?_ ?_
        · rintro b a w' ⟨gb232, m19_, ha, Q_BK224, Q_BK225, Q_BK227, Q_HB, Q_BK232, Q_GW232, Q_GE232, Q_NB224_232, Q_NB232_224, Q_NB225_232, Q_NB232_225, Q_NB227_232, Q_NB232_227, Q_BK232_e20, Q_X19_⟩ hb_ hon hoff
          refine ⟨_, rfl, fun K hK => ?_⟩
          have e30 : a.tmps[30]? = some (.pointer (some ⟨gb224, 3, none⟩)) := by rw [ha]; exact (putSel_off rfl).trans rfl
          replace ha := Aside0.mk ha
          have BK224 := Aside0.mk Q_BK224
          have BK225 := Aside0.mk Q_BK225
          have BK227 := Aside0.mk Q_BK227
          have HB := Aside0.mk Q_HB
          have hc0_ : w'.cell? ⟨gb224, 0, none⟩ = some (.int .i64 a0_0) := (blk_cell BK224.out 0).trans rfl
          have hc1_ : w'.cell? ⟨gb224, 1, none⟩ = some (.int .i64 a0_1) := (blk_cell BK224.out 1).trans rfl
          have hc2_ : w'.cell? ⟨gb224, 2, none⟩ = some (.int .i64 a0_2) := (blk_cell BK224.out 2).trans rfl
          have hc3_ : w'.cell? ⟨gb224, 3, none⟩ = some (.int .i64 a0_3) := (blk_cell BK224.out 3).trans rfl
          have hc4_ : w'.cell? ⟨gb224, 4, none⟩ = some (.int .i64 a0_4) := (blk_cell BK224.out 4).trans rfl
          have hc5_ : w'.cell? ⟨gb224, 5, none⟩ = some (.int .i64 a0_5) := (blk_cell BK224.out 5).trans rfl
          refine value_ (w1 := w') (v := .int .i64 a0_3) (by rfl) rfl ?_ ?_
          · go_simp
            (try simp only [i64_w])
            try rfl
          refine hK.out _ _ ⟨gb232, m19_, (by rw [ha.out]; exact putSel_upk 0 hb_ rfl rfl rfl), Q_BK224, Q_BK225, Q_BK227, Q_HB, Q_BK232, Q_GW232, Q_GE232, Q_NB224_232, Q_NB232_224, Q_NB225_232, Q_NB232_225, Q_NB227_232, Q_NB232_227, fun h0_ => absurd ((hoff 20 (by kernel_rfl)).symm.trans h0_) (by decide), Q_X19_⟩
        refine steps_cons ?_ ?_
        · rintro b a w' ⟨gb232, m19_, ha, Q_BK224, Q_BK225, Q_BK227, Q_HB, Q_BK232, Q_GW232, Q_GE232, Q_NB224_232, Q_NB232_224, Q_NB225_232, Q_NB232_225, Q_NB227_232, Q_NB232_227, Q_BK232_e20, Q_X19_⟩ hb_ hon hoff
          refine ⟨_, rfl, fun K hK => ?_⟩
          have e29 : a.tmps[29]? = some (.func (.func 43) #[] #[.pointer (some ⟨gb227, 0, none⟩)]) := by rw [ha]; exact (putSel_off rfl).trans rfl
          have e31 : a.tmps[31]? = some (.int .i64 a0_3) := by rw [ha]; exact putSel_on (e := (2, 31, .int .i64 a0_3)) 0 rfl rfl (hon 2 (by kernel_rfl)) rfl
          replace ha := Aside0.mk ha
          have BK224 := Aside0.mk Q_BK224
          have BK225 := Aside0.mk Q_BK225
          have BK227 := Aside0.mk Q_BK227
          have HB := Aside0.mk Q_HB
          refine goesC_ #[.pointer (some ⟨gb227, 0, none⟩)] Try.func43 (by kernel_rfl) rfl #[.int .i64 a0_3] #[.int .i64 a0_3, .pointer (some ⟨gb227, 0, none⟩)] (by rfl) rfl rfl (by simp only [Act.eval, Array.getD_eq_getD_getElem?, Option.getD_some, e29, e31]) (by first | (simp only [List.map_toArray, List.map_cons, List.map_nil, Act.eval, Array.getD_eq_getD_getElem?, Option.getD_some, e29, e31]; done) | (simp only [List.map_toArray, List.map_cons, List.map_nil, Act.eval, Array.getD_eq_getD_getElem?, Option.getD_some, e29, e31]; rfl)) (by rfl) ?_
          with_reducible refine (affine_Inverse_1.calls kj11 a0_3 (wrap64 ((wrap64 (a0_0 * a0_3)) - (wrap64 (a0_1 * a0_2)))) t228 _ gb227 (by (with_reducible repeat (first | refine bN_ ?_ _ | refine bD_ ?_ | refine bA_ ?_ _)); exact BK227.out) A23.out).mono ?_
          rintro e w30 ⟨rfl, hb⟩
          refine ⟨_, rfl, ?_⟩
          have n0_ := Aside0.mk (blk_below (g := gb224) (o := .cells #[.int .i64 a0_0, .int .i64 a0_1, .int .i64 a0_2, .int .i64 a0_3, .int .i64 a0_4, .int .i64 a0_5] 23 (0, 0)) (by (with_reducible repeat (first | refine bN_ ?_ _ | refine bD_ ?_ | refine bA_ ?_ _)); exact BK224.out) hb)
          have n1_ := Aside0.mk (blk_below (g := gb225) (o := .cells #[.int .i64 x226000_11, .int .i64 x226001_11, .int .i64 x226002_11, .int .i64 x226003_11, .int .i64 x226004_11, .int .i64 x226005_11] 23 (0, 0)) (by (with_reducible repeat (first | refine bN_ ?_ _ | refine bD_ ?_ | refine bA_ ?_ _)); exact BK225.out) hb)
          have n2_ := Aside0.mk (blk_below (g := gb227) (o := .cells #[.int .i64 (wrap64 ((wrap64 (a0_0 * a0_3)) - (wrap64 (a0_1 * a0_2))))] 3 (0, 0)) (by (with_reducible repeat (first | refine bN_ ?_ _ | refine bD_ ?_ | refine bA_ ?_ _)); exact BK227.out) hb)
          have n3_ := Aside0.mk (below_step (by repeat (first | (with_reducible first | exact HB.out | apply lA_ | apply lN_ | apply lD_ | refine lS_ ?_ GE224.out | refine lS_ ?_ GE225.out | refine lS_ ?_ GE227.out) | exact HB.out)) hb)
          have z_BK232 := fun (h0_ : b 19 = true) (h1_ : b 20 = false) => (show w30.heap[gb232]? = some (.cells #[.int .i64 0, .int .i64 0, .int .i64 0, .int .i64 0, .int .i64 0, .int .i64 0] 23 (0, 0)) from by first | exact (blk_below (g := gb232) (o := .cells #[.int .i64 0, .int .i64 0, .int .i64 0, .int .i64 0, .int .i64 0, .int .i64 0] 23 (0, 0)) (by (with_reducible repeat (first | refine bN_ ?_ _ | refine bD_ ?_ | refine bA_ ?_ _)); exact (Q_BK232 h0_ h1_)) hb))
          clear BK224 BK225 BK227 HB
          have BK224 := n0_; have BK225 := n1_; have BK227 := n2_; have HB := n3_
          clear n0_ n1_ n2_ n3_
          (try clear hb)
          (try clear hb2)
          (try clear hk)
          (try clear hi)
          refine hK.out _ _ ⟨gb232, m19_, (by rw [ha.out]; exact putSel_upk 1 hb_ rfl rfl rfl), (by (with_reducible repeat (first | refine bN_ ?_ _ | refine bD_ ?_ | refine bA_ ?_ _)); exact BK224.out), (by (with_reducible repeat (first | refine bN_ ?_ _ | refine bD_ ?_ | refine bA_ ?_ _)); exact BK225.out), (by (with_reducible repeat (first | refine bN_ ?_ _ | refine bD_ ?_ | refine bA_ ?_ _)); exact BK227.out), (by repeat (first | (with_reducible first | exact HB.out | apply lA_ | apply lN_ | apply lD_ | refine lS_ ?_ GE224.out | refine lS_ ?_ GE225.out | refine lS_ ?_ GE227.out) | exact HB.out)), z_BK232, Q_GW232, Q_GE232, Q_NB224_232, Q_NB232_224, Q_NB225_232, Q_NB232_225, Q_NB227_232, Q_NB232_227, fun h0_ => absurd ((hoff 20 (by kernel_rfl)).symm.trans h0_) (by decide), Q_X19_⟩
        refine steps_cons ?_ ?_
        · rintro b a w' ⟨gb232, m19_, ha, Q_BK224, Q_BK225, Q_BK227, Q_HB, Q_BK232, Q_GW232, Q_GE232, Q_NB224_232, Q_NB232_224, Q_NB225_232, Q_NB232_225, Q_NB227_232, Q_NB232_227, Q_BK232_e20, Q_X19_⟩ hb_ hon hoff
          refine ⟨_, rfl, fun K hK => ?_⟩
          have e34 : a.tmps[34]? = some (.pointer (some ⟨gb224, 1, none⟩)) := by rw [ha]; exact (putSel_off rfl).trans rfl
          replace ha := Aside0.mk ha
          have BK224 := Aside0.mk Q_BK224
          have BK225 := Aside0.mk Q_BK225
          have BK227 := Aside0.mk Q_BK227
          have HB := Aside0.mk Q_HB
          have hc0_ : w'.cell? ⟨gb224, 0, none⟩ = some (.int .i64 a0_0) := (blk_cell BK224.out 0).trans rfl
          have hc1_ : w'.cell? ⟨gb224, 1, none⟩ = some (.int .i64 a0_1) := (blk_cell BK224.out 1).trans rfl
          have hc2_ : w'.cell? ⟨gb224, 2, none⟩ = some (.int .i64 a0_2) := (blk_cell BK224.out 2).trans rfl
          have hc3_ : w'.cell? ⟨gb224, 3, none⟩ = some (.int .i64 a0_3) := (blk_cell BK224.out 3).trans rfl
          have hc4_ : w'.cell? ⟨gb224, 4, none⟩ = some (.int .i64 a0_4) := (blk_cell BK224.out 4).trans rfl
          have hc5_ : w'.cell? ⟨gb224, 5, none⟩ = some (.int .i64 a0_5) := (blk_cell BK224.out 5).trans rfl
          refine value_ (w1 := w') (v := .int .i64 a0_1) (by rfl) rfl ?_ ?_
          · go_simp
            (try simp only [i64_w])
            try rfl
          refine hK.out _ _ ⟨gb232, m19_, (by rw [ha.out]; exact putSel_upk 2 hb_ rfl rfl rfl), Q_BK224, Q_BK225, Q_BK227, Q_HB, Q_BK232, Q_GW232, Q_GE232, Q_NB224_232, Q_NB232_224, Q_NB225_232, Q_NB232_225, Q_NB227_232, Q_NB232_227, fun h0_ => absurd ((hoff 20 (by kernel_rfl)).symm.trans h0_) (by decide), Q_X19_⟩
        refine steps_cons ?_ ?_
        · rintro b a w' ⟨gb232, m19_, ha, Q_BK224, Q_BK225, Q_BK227, Q_HB, Q_BK232, Q_GW232, Q_GE232, Q_NB224_232, Q_NB232_224, Q_NB225_232, Q_NB232_225, Q_NB227_232, Q_NB232_227, Q_BK232_e20, Q_X19_⟩ hb_ hon hoff
          refine ⟨_, rfl, fun K hK => ?_⟩
          have e35 : a.tmps[35]? = some (.int .i64 a0_1) := by rw [ha]; exact putSel_on (e := (6, 35, .int .i64 a0_1)) 2 rfl rfl (hon 6 (by kernel_rfl)) rfl
          replace ha := Aside0.mk ha
          have BK224 := Aside0.mk Q_BK224
          have BK225 := Aside0.mk Q_BK225
          have BK227 := Aside0.mk Q_BK227
          have HB := Aside0.mk Q_HB
          refine value_ (w1 := w') (v := .int .i64 (wrap64 (-a0_1))) (by rfl) rfl ?_ ?_
          · go_simp
            (try simp only [i64_w])
            try rfl
          refine hK.out _ _ ⟨gb232, m19_, (by rw [ha.out]; exact putSel_upk 3 hb_ rfl rfl rfl), Q_BK224, Q_BK225, Q_BK227, Q_HB, Q_BK232, Q_GW232, Q_GE232, Q_NB224_232, Q_NB232_224, Q_NB225_232, Q_NB232_225, Q_NB227_232, Q_NB232_227, fun h0_ => absurd ((hoff 20 (by kernel_rfl)).symm.trans h0_) (by decide), Q_X19_⟩
        refine steps_cons ?_ ?_
        · rintro b a w' ⟨gb232, m19_, ha, Q_BK224, Q_BK225, Q_BK227, Q_HB, Q_BK232, Q_GW232, Q_GE232, Q_NB224_232, Q_NB232_224, Q_NB225_232, Q_NB232_225, Q_NB227_232, Q_NB232_227, Q_BK232_e20, Q_X19_⟩ hb_ hon hoff
          refine ⟨_, rfl, fun K hK => ?_⟩
          have e33 : a.tmps[33]? = some (.func (.func 43) #[] #[.pointer (some ⟨gb227, 0, none⟩)]) := by rw [ha]; exact (putSel_off rfl).trans rfl
          have e36 : a.tmps[36]? = some (.int .i64 (wrap64 (-a0_1))) := by rw [ha]; exact putSel_on (e := (7, 36, .int .i64 (wrap64 (-a0_1)))) 3 rfl rfl (hon 7 (by kernel_rfl)) rfl
          replace ha := Aside0.mk ha
          have BK224 := Aside0.mk Q_BK224
          have BK225 := Aside0.mk Q_BK225
          have BK227 := Aside0.mk Q_BK227
          have HB := Aside0.mk Q_HB
          refine goesC_ #[.pointer (some ⟨gb227, 0, none⟩)] Try.func43 (by kernel_rfl) rfl #[.int .i64 (wrap64 (-a0_1))] #[.int .i64 (wrap64 (-a0_1)), .pointer (some ⟨gb227, 0, none⟩)] (by rfl) rfl rfl (by simp only [Act.eval, Array.getD_eq_getD_getElem?, Option.getD_some, e33, e36]) (by first | (simp only [List.map_toArray, List.map_cons, List.map_nil, Act.eval, Array.getD_eq_getD_getElem?, Option.getD_some, e33, e36]; done) | (simp only [List.map_toArray, List.map_cons, List.map_nil, Act.eval, Array.getD_eq_getD_getElem?, Option.getD_some, e33, e36]; rfl)) (by rfl) ?_
          with_reducible refine (affine_Inverse_1.calls kj11 (wrap64 (-a0_1)) (wrap64 ((wrap64 (a0_0 * a0_3)) - (wrap64 (a0_1 * a0_2)))) t229 _ gb227 (by (with_reducible repeat (first | refine bN_ ?_ _ | refine bD_ ?_ | refine bA_ ?_ _)); exact BK227.out) A24.out).mono ?_
          rintro e w32 ⟨rfl, hb⟩
          refine ⟨_, rfl, ?_⟩
          have n0_ := Aside0.mk (blk_below (g := gb224) (o := .cells #[.int .i64 a0_0, .int .i64 a0_1, .int .i64 a0_2, .int .i64 a0_3, .int .i64 a0_4, .int .i64 a0_5] 23 (0, 0)) (by (with_reducible repeat (first | refine bN_ ?_ _ | refine bD_ ?_ | refine bA_ ?_ _)); exact BK224.out) hb)
          have n1_ := Aside0.mk (blk_below (g := gb225) (o := .cells #[.int .i64 x226000_11, .int .i64 x226001_11, .int .i64 x226002_11, .int .i64 x226003_11, .int .i64 x226004_11, .int .i64 x226005_11] 23 (0, 0)) (by (with_reducible repeat (first | refine bN_ ?_ _ | refine bD_ ?_ | refine bA_ ?_ _)); exact BK225.out) hb)
          have n2_ := Aside0.mk (blk_below (g := gb227) (o := .cells #[.int .i64 (wrap64 ((wrap64 (a0_0 * a0_3)) - (wrap64 (a0_1 * a0_2))))] 3 (0, 0)) (by (with_reducible repeat (first | refine bN_ ?_ _ | refine bD_ ?_ | refine bA_ ?_ _)); exact BK227.out) hb)
          have n3_ := Aside0.mk (below_step (by repeat (first | (with_reducible first | exact HB.out | apply lA_ | apply lN_ | apply lD_ | refine lS_ ?_ GE224.out | refine lS_ ?_ GE225.out | refine lS_ ?_ GE227.out) | exact HB.out)) hb)
          have z_BK232 := fun (h0_ : b 19 = true) (h1_ : b 20 = false) => (show w32.heap[gb232]? = some (.cells #[.int .i64 0, .int .i64 0, .int .i64 0, .int .i64 0, .int .i64 0, .int .i64 0] 23 (0, 0)) from by first | exact (blk_below (g := gb232) (o := .cells #[.int .i64 0, .int .i64 0, .int .i64 0, .int .i64 0, .int .i64 0, .int .i64 0] 23 (0, 0)) (by (with_reducible repeat (first | refine bN_ ?_ _ | refine bD_ ?_ | refine bA_ ?_ _)); exact (Q_BK232 h0_ h1_)) hb))
          clear BK224 BK225 BK227 HB
          have BK224 := n0_; have BK225 := n1_; have BK227 := n2_; have HB := n3_
          clear n0_ n1_ n2_ n3_
          (try clear hb)
          (try clear hb2)
          (try clear hk)
          (try clear hi)
          refine hK.out _ _ ⟨gb232, m19_, (by rw [ha.out]; exact putSel_upk 4 hb_ rfl rfl rfl), (by (with_reducible repeat (first | refine bN_ ?_ _ | refine bD_ ?_ | refine bA_ ?_ _)); exact BK224.out), (by (with_reducible repeat (first | refine bN_ ?_ _ | refine bD_ ?_ | refine bA_ ?_ _)); exact BK225.out), (by (with_reducible repeat (first | refine bN_ ?_ _ | refine bD_ ?_ | refine bA_ ?_ _)); exact BK227.out), (by repeat (first | (with_reducible first | exact HB.out | apply lA_ | apply lN_ | apply lD_ | refine lS_ ?_ GE224.out | refine lS_ ?_ GE225.out | refine lS_ ?_ GE227.out) | exact HB.out)), z_BK232, Q_GW232, Q_GE232, Q_NB224_232, Q_NB232_224, Q_NB225_232, Q_NB232_225, Q_NB227_232, Q_NB232_227, fun h0_ => absurd ((hoff 20 (by kernel_rfl)).symm.trans h0_) (by decide), Q_X19_⟩
        refine steps_cons ?_ ?_
        · rintro b a w' ⟨gb232, m19_, ha, Q_BK224, Q_BK225, Q_BK227, Q_HB, Q_BK232, Q_GW232, Q_GE232, Q_NB224_232, Q_NB232_224, Q_NB225_232, Q_NB232_225, Q_NB227_232, Q_NB232_227, Q_BK232_e20, Q_X19_⟩ hb_ hon hoff
          refine ⟨_, rfl, fun K hK => ?_⟩
          have e39 : a.tmps[39]? = some (.pointer (some ⟨gb224, 2, none⟩)) := by rw [ha]; exact (putSel_off rfl).trans rfl
          replace ha := Aside0.mk ha
          have BK224 := Aside0.mk Q_BK224
          have BK225 := Aside0.mk Q_BK225
          have BK227 := Aside0.mk Q_BK227
          have HB := Aside0.mk Q_HB
          have hc0_ : w'.cell? ⟨gb224, 0, none⟩ = some (.int .i64 a0_0) := (blk_cell BK224.out 0).trans rfl
          have hc1_ : w'.cell? ⟨gb224, 1, none⟩ = some (.int .i64 a0_1) := (blk_cell BK224.out 1).trans rfl
          have hc2_ : w'.cell? ⟨gb224, 2, none⟩ = some (.int .i64 a0_2) := (blk_cell BK224.out 2).trans rfl
          have hc3_ : w'.cell? ⟨gb224, 3, none⟩ = some (.int .i64 a0_3) := (blk_cell BK224.out 3).trans rfl
          have hc4_ : w'.cell? ⟨gb224, 4, none⟩ = some (.int .i64 a0_4) := (blk_cell BK224.out 4).trans rfl
          have hc5_ : w'.cell? ⟨gb224, 5, none⟩ = some (.int .i64 a0_5) := (blk_cell BK224.out 5).trans rfl
          refine value_ (w1 := w') (v := .int .i64 a0_2) (by rfl) rfl ?_ ?_
          · go_simp
            (try simp only [i64_w])
            try rfl
          refine hK.out _ _ ⟨gb232, m19_, (by rw [ha.out]; exact putSel_upk 5 hb_ rfl rfl rfl), Q_BK224, Q_BK225, Q_BK227, Q_HB, Q_BK232, Q_GW232, Q_GE232, Q_NB224_232, Q_NB232_224, Q_NB225_232, Q_NB232_225, Q_NB227_232, Q_NB232_227, fun h0_ => absurd ((hoff 20 (by kernel_rfl)).symm.trans h0_) (by decide), Q_X19_⟩
        refine steps_cons ?_ ?_
        · rintro b a w' ⟨gb232, m19_, ha, Q_BK224, Q_BK225, Q_BK227, Q_HB, Q_BK232, Q_GW232, Q_GE232, Q_NB224_232, Q_NB232_224, Q_NB225_232, Q_NB232_225, Q_NB227_232, Q_NB232_227, Q_BK232_e20, Q_X19_⟩ hb_ hon hoff
          refine ⟨_, rfl, fun K hK => ?_⟩
          have e40 : a.tmps[40]? = some (.int .i64 a0_2) := by rw [ha]; exact putSel_on (e := (11, 40, .int .i64 a0_2)) 5 rfl rfl (hon 11 (by kernel_rfl)) rfl
          replace ha := Aside0.mk ha
          have BK224 := Aside0.mk Q_BK224
          have BK225 := Aside0.mk Q_BK225
          have BK227 := Aside0.mk Q_BK227
          have HB := Aside0.mk Q_HB
          refine value_ (w1 := w') (v := .int .i64 (wrap64 (-a0_2))) (by rfl) rfl ?_ ?_
          · go_simp
            (try simp only [i64_w])
            try rfl
          refine hK.out _ _ ⟨gb232, m19_, (by rw [ha.out]; exact putSel_upk 6 hb_ rfl rfl rfl), Q_BK224, Q_BK225, Q_BK227, Q_HB, Q_BK232, Q_GW232, Q_GE232, Q_NB224_232, Q_NB232_224, Q_NB225_232, Q_NB232_225, Q_NB227_232, Q_NB232_227, fun h0_ => absurd ((hoff 20 (by kernel_rfl)).symm.trans h0_) (by decide), Q_X19_⟩
        refine steps_cons ?_ ?_
        · rintro b a w' ⟨gb232, m19_, ha, Q_BK224, Q_BK225, Q_BK227, Q_HB, Q_BK232, Q_GW232, Q_GE232, Q_NB224_232, Q_NB232_224, Q_NB225_232, Q_NB232_225, Q_NB227_232, Q_NB232_227, Q_BK232_e20, Q_X19_⟩ hb_ hon hoff
          refine ⟨_, rfl, fun K hK => ?_⟩
          have e38 : a.tmps[38]? = some (.func (.func 43) #[] #[.pointer (some ⟨gb227, 0, none⟩)]) := by rw [ha]; exact (putSel_off rfl).trans rfl
          have e41 : a.tmps[41]? = some (.int .i64 (wrap64 (-a0_2))) := by rw [ha]; exact putSel_on (e := (12, 41, .int .i64 (wrap64 (-a0_2)))) 6 rfl rfl (hon 12 (by kernel_rfl)) rfl
          replace ha := Aside0.mk ha
          have BK224 := Aside0.mk Q_BK224
          have BK225 := Aside0.mk Q_BK225
          have BK227 := Aside0.mk Q_BK227
          have HB := Aside0.mk Q_HB
          refine goesC_ #[.pointer (some ⟨gb227, 0, none⟩)] Try.func43 (by kernel_rfl) rfl #[.int .i64 (wrap64 (-a0_2))] #[.int .i64 (wrap64 (-a0_2)), .pointer (some ⟨gb227, 0, none⟩)] (by rfl) rfl rfl (by simp only [Act.eval, Array.getD_eq_getD_getElem?, Option.getD_some, e38, e41]) (by first | (simp only [List.map_toArray, List.map_cons, List.map_nil, Act.eval, Array.getD_eq_getD_getElem?, Option.getD_some, e38, e41]; done) | (simp only [List.map_toArray, List.map_cons, List.map_nil, Act.eval, Array.getD_eq_getD_getElem?, Option.getD_some, e38, e41]; rfl)) (by rfl) ?_
          with_reducible refine (affine_Inverse_1.calls kj11 (wrap64 (-a0_2)) (wrap64 ((wrap64 (a0_0 * a0_3)) - (wrap64 (a0_1 * a0_2)))) t230 _ gb227 (by (with_reducible repeat (first | refine bN_ ?_ _ | refine bD_ ?_ | refine bA_ ?_ _)); exact BK227.out) A25.out).mono ?_
          rintro e w33 ⟨rfl, hb⟩
          refine ⟨_, rfl, ?_⟩
          have n0_ := Aside0.mk (blk_below (g := gb224) (o := .cells #[.int .i64 a0_0, .int .i64 a0_1, .int .i64 a0_2, .int .i64 a0_3, .int .i64 a0_4, .int .i64 a0_5] 23 (0, 0)) (by (with_reducible repeat (first | refine bN_ ?_ _ | refine bD_ ?_ | refine bA_ ?_ _)); exact BK224.out) hb)
          have n1_ := Aside0.mk (blk_below (g := gb225) (o := .cells #[.int .i64 x226000_11, .int .i64 x226001_11, .int .i64 x226002_11, .int .i64 x226003_11, .int .i64 x226004_11, .int .i64 x226005_11] 23 (0, 0)) (by (with_reducible repeat (first | refine bN_ ?_ _ | refine bD_ ?_ | refine bA_ ?_ _)); exact BK225.out) hb)
          have n2_ := Aside0.mk (blk_below (g := gb227) (o := .cells #[.int .i64 (wrap64 ((wrap64 (a0_0 * a0_3)) - (wrap64 (a0_1 * a0_2))))] 3 (0, 0)) (by (with_reducible repeat (first | refine bN_ ?_ _ | refine bD_ ?_ | refine bA_ ?_ _)); exact BK227.out) hb)
          have n3_ := Aside0.mk (below_step (by repeat (first | (with_reducible first | exact HB.out | apply lA_ | apply lN_ | apply lD_ | refine lS_ ?_ GE224.out | refine lS_ ?_ GE225.out | refine lS_ ?_ GE227.out) | exact HB.out)) hb)
          have z_BK232 := fun (h0_ : b 19 = true) (h1_ : b 20 = false) => (show w33.heap[gb232]? = some (.cells #[.int .i64 0, .int .i64 0, .int .i64 0, .int .i64 0, .int .i64 0, .int .i64 0] 23 (0, 0)) from by first | exact (blk_below (g := gb232) (o := .cells #[.int .i64 0, .int .i64 0, .int .i64 0, .int .i64 0, .int .i64 0, .int .i64 0] 23 (0, 0)) (by (with_reducible repeat (first | refine bN_ ?_ _ | refine bD_ ?_ | refine bA_ ?_ _)); exact (Q_BK232 h0_ h1_)) hb))
          clear BK224 BK225 BK227 HB
          have BK224 := n0_; have BK225 := n1_; have BK227 := n2_; have HB := n3_
          clear n0_ n1_ n2_ n3_
          (try clear hb)
          (try clear hb2)
          (try clear hk)
          (try clear hi)
          refine hK.out _ _ ⟨gb232, m19_, (by rw [ha.out]; exact putSel_upk 7 hb_ rfl rfl rfl), (by (with_reducible repeat (first | refine bN_ ?_ _ | refine bD_ ?_ | refine bA_ ?_ _)); exact BK224.out), (by (with_reducible repeat (first | refine bN_ ?_ _ | refine bD_ ?_ | refine bA_ ?_ _)); exact BK225.out), (by (with_reducible repeat (first | refine bN_ ?_ _ | refine bD_ ?_ | refine bA_ ?_ _)); exact BK227.out), (by repeat (first | (with_reducible first | exact HB.out | apply lA_ | apply lN_ | apply lD_ | refine lS_ ?_ GE224.out | refine lS_ ?_ GE225.out | refine lS_ ?_ GE227.out) | exact HB.out)), z_BK232, Q_GW232, Q_GE232, Q_NB224_232, Q_NB232_224, Q_NB225_232, Q_NB232_225, Q_NB227_232, Q_NB232_227, fun h0_ => absurd ((hoff 20 (by kernel_rfl)).symm.trans h0_) (by decide), Q_X19_⟩
        refine steps_cons ?_ ?_
        · rintro b a w' ⟨gb232, m19_, ha, Q_BK224, Q_BK225, Q_BK227, Q_HB, Q_BK232, Q_GW232, Q_GE232, Q_NB224_232, Q_NB232_224, Q_NB225_232, Q_NB232_225, Q_NB227_232, Q_NB232_227, Q_BK232_e20, Q_X19_⟩ hb_ hon hoff
          refine ⟨_, rfl, fun K hK => ?_⟩
          have e44 : a.tmps[44]? = some (.pointer (some ⟨gb224, 0, none⟩)) := by rw [ha]; exact (putSel_off rfl).trans rfl
          replace ha := Aside0.mk ha
          have BK224 := Aside0.mk Q_BK224
          have BK225 := Aside0.mk Q_BK225
          have BK227 := Aside0.mk Q_BK227
          have HB := Aside0.mk Q_HB
          have hc0_ : w'.cell? ⟨gb224, 0, none⟩ = some (.int .i64 a0_0) := (blk_cell BK224.out 0).trans rfl
          have hc1_ : w'.cell? ⟨gb224, 1, none⟩ = some (.int .i64 a0_1) := (blk_cell BK224.out 1).trans rfl
          have hc2_ : w'.cell? ⟨gb224, 2, none⟩ = some (.int .i64 a0_2) := (blk_cell BK224.out 2).trans rfl
          have hc3_ : w'.cell? ⟨gb224, 3, none⟩ = some (.int .i64 a0_3) := (blk_cell BK224.out 3).trans rfl
          have hc4_ : w'.cell? ⟨gb224, 4, none⟩ = some (.int .i64 a0_4) := (blk_cell BK224.out 4).trans rfl
          have hc5_ : w'.cell? ⟨gb224, 5, none⟩ = some (.int .i64 a0_5) := (blk_cell BK224.out 5).trans rfl
          refine value_ (w1 := w') (v := .int .i64 a0_0) (by rfl) rfl ?_ ?_
          · go_simp
            (try simp only [i64_w])
            try rfl
          refine hK.out _ _ ⟨gb232, m19_, (by rw [ha.out]; exact putSel_upk 8 hb_ rfl rfl rfl), Q_BK224, Q_BK225, Q_BK227, Q_HB, Q_BK232, Q_GW232, Q_GE232, Q_NB224_232, Q_NB232_224, Q_NB225_232, Q_NB232_225, Q_NB227_232, Q_NB232_227, fun h0_ => absurd ((hoff 20 (by kernel_rfl)).symm.trans h0_) (by decide), Q_X19_⟩
        refine steps_cons ?_ ?_
        · rintro b a w' ⟨gb232, m19_, ha, Q_BK224, Q_BK225, Q_BK227, Q_HB, Q_BK232, Q_GW232, Q_GE232, Q_NB224_232, Q_NB232_224, Q_NB225_232, Q_NB232_225, Q_NB227_232, Q_NB232_227, Q_BK232_e20, Q_X19_⟩ hb_ hon hoff
          refine ⟨_, rfl, fun K hK => ?_⟩
          have e43 : a.tmps[43]? = some (.func (.func 43) #[] #[.pointer (some ⟨gb227, 0, none⟩)]) := by rw [ha]; exact (putSel_off rfl).trans rfl
          have e45 : a.tmps[45]? = some (.int .i64 a0_0) := by rw [ha]; exact putSel_on (e := (16, 45, .int .i64 a0_0)) 8 rfl rfl (hon 16 (by kernel_rfl)) rfl
          replace ha := Aside0.mk ha
          have BK224 := Aside0.mk Q_BK224
          have BK225 := Aside0.mk Q_BK225
          have BK227 := Aside0.mk Q_BK227
          have HB := Aside0.mk Q_HB
          refine goesC_ #[.pointer (some ⟨gb227, 0, none⟩)] Try.func43 (by kernel_rfl) rfl #[.int .i64 a0_0] #[.int .i64 a0_0, .pointer (some ⟨gb227, 0, none⟩)] (by rfl) rfl rfl (by simp only [Act.eval, Array.getD_eq_getD_getElem?, Option.getD_some, e43, e45]) (by first | (simp only [List.map_toArray, List.map_cons, List.map_nil, Act.eval, Array.getD_eq_getD_getElem?, Option.getD_some, e43, e45]; done) | (simp only [List.map_toArray, List.map_cons, List.map_nil, Act.eval, Array.getD_eq_getD_getElem?, Option.getD_some, e43, e45]; rfl)) (by rfl) ?_
          with_reducible refine (affine_Inverse_1.calls kj11 a0_0 (wrap64 ((wrap64 (a0_0 * a0_3)) - (wrap64 (a0_1 * a0_2)))) t231 _ gb227 (by (with_reducible repeat (first | refine bN_ ?_ _ | refine bD_ ?_ | refine bA_ ?_ _)); exact BK227.out) A26.out).mono ?_
          rintro e w34 ⟨rfl, hb⟩
          refine ⟨_, rfl, ?_⟩
          have n0_ := Aside0.mk (blk_below (g := gb224) (o := .cells #[.int .i64 a0_0, .int .i64 a0_1, .int .i64 a0_2, .int .i64 a0_3, .int .i64 a0_4, .int .i64 a0_5] 23 (0, 0)) (by (with_reducible repeat (first | refine bN_ ?_ _ | refine bD_ ?_ | refine bA_ ?_ _)); exact BK224.out) hb)
          have n1_ := Aside0.mk (blk_below (g := gb225) (o := .cells #[.int .i64 x226000_11, .int .i64 x226001_11, .int .i64 x226002_11, .int .i64 x226003_11, .int .i64 x226004_11, .int .i64 x226005_11] 23 (0, 0)) (by (with_reducible repeat (first | refine bN_ ?_ _ | refine bD_ ?_ | refine bA_ ?_ _)); exact BK225.out) hb)
          have n2_ := Aside0.mk (blk_below (g := gb227) (o := .cells #[.int .i64 (wrap64 ((wrap64 (a0_0 * a0_3)) - (wrap64 (a0_1 * a0_2))))] 3 (0, 0)) (by (with_reducible repeat (first | refine bN_ ?_ _ | refine bD_ ?_ | refine bA_ ?_ _)); exact BK227.out) hb)
          have n3_ := Aside0.mk (below_step (by repeat (first | (with_reducible first | exact HB.out | apply lA_ | apply lN_ | apply lD_ | refine lS_ ?_ GE224.out | refine lS_ ?_ GE225.out | refine lS_ ?_ GE227.out) | exact HB.out)) hb)
          have z_BK232 := fun (h0_ : b 19 = true) (h1_ : b 20 = false) => (show w34.heap[gb232]? = some (.cells #[.int .i64 0, .int .i64 0, .int .i64 0, .int .i64 0, .int .i64 0, .int .i64 0] 23 (0, 0)) from by first | exact (blk_below (g := gb232) (o := .cells #[.int .i64 0, .int .i64 0, .int .i64 0, .int .i64 0, .int .i64 0, .int .i64 0] 23 (0, 0)) (by (with_reducible repeat (first | refine bN_ ?_ _ | refine bD_ ?_ | refine bA_ ?_ _)); exact (Q_BK232 h0_ h1_)) hb))
          clear BK224 BK225 BK227 HB
          have BK224 := n0_; have BK225 := n1_; have BK227 := n2_; have HB := n3_
          clear n0_ n1_ n2_ n3_
          (try clear hb)
          (try clear hb2)
          (try clear hk)
          (try clear hi)
          refine hK.out _ _ ⟨gb232, m19_, (by rw [ha.out]; exact putSel_upk 9 hb_ rfl rfl rfl), (by (with_reducible repeat (first | refine bN_ ?_ _ | refine bD_ ?_ | refine bA_ ?_ _)); exact BK224.out), (by (with_reducible repeat (first | refine bN_ ?_ _ | refine bD_ ?_ | refine bA_ ?_ _)); exact BK225.out), (by (with_reducible repeat (first | refine bN_ ?_ _ | refine bD_ ?_ | refine bA_ ?_ _)); exact BK227.out), (by repeat (first | (with_reducible first | exact HB.out | apply lA_ | apply lN_ | apply lD_ | refine lS_ ?_ GE224.out | refine lS_ ?_ GE225.out | refine lS_ ?_ GE227.out) | exact HB.out)), z_BK232, Q_GW232, Q_GE232, Q_NB224_232, Q_NB232_224, Q_NB225_232, Q_NB232_225, Q_NB227_232, Q_NB232_227, fun h0_ => absurd ((hoff 20 (by kernel_rfl)).symm.trans h0_) (by decide), Q_X19_⟩
        refine steps_cons ?_ ?_
        · rintro b a w' ⟨gb232, m19_, ha, Q_BK224, Q_BK225, Q_BK227, Q_HB, Q_BK232, Q_GW232, Q_GE232, Q_NB224_232, Q_NB232_224, Q_NB225_232, Q_NB232_225, Q_NB227_232, Q_NB232_227, Q_BK232_e20, Q_X19_⟩ hb_ hon hoff
          refine ⟨_, rfl, fun K hK => ?_⟩
          have e32 : a.tmps[32]? = some (.int .i64 t228) := by rw [ha]; exact putSel_on (e := (3, 32, .int .i64 t228)) 1 rfl rfl (hon 3 (by kernel_rfl)) rfl
          have e37 : a.tmps[37]? = some (.int .i64 t229) := by rw [ha]; exact putSel_on (e := (8, 37, .int .i64 t229)) 4 rfl rfl (hon 8 (by kernel_rfl)) rfl
          have e42 : a.tmps[42]? = some (.int .i64 t230) := by rw [ha]; exact putSel_on (e := (13, 42, .int .i64 t230)) 7 rfl rfl (hon 13 (by kernel_rfl)) rfl
          have e46 : a.tmps[46]? = some (.int .i64 t231) := by rw [ha]; exact putSel_on (e := (17, 46, .int .i64 t231)) 9 rfl rfl (hon 17 (by kernel_rfl)) rfl
          replace ha := Aside0.mk ha
          have BK224 := Aside0.mk Q_BK224
          have BK225 := Aside0.mk Q_BK225
          have BK227 := Aside0.mk Q_BK227
          have HB := Aside0.mk Q_HB
          refine value_ (w1 := w') (v := .agg #[.int .i64 t228, .int .i64 t229, .int .i64 t230, .int .i64 t231, .int .i64 0, .int .i64 0]) (by rfl) rfl ?_ ?_
          · go_simp
            (try simp only [i64_w])
            try rfl
          refine hK.out _ _ ⟨gb232, m19_, (by rw [ha.out]; exact putSel_upk 10 hb_ rfl rfl rfl), Q_BK224, Q_BK225, Q_BK227, Q_HB, Q_BK232, Q_GW232, Q_GE232, Q_NB224_232, Q_NB232_224, Q_NB225_232, Q_NB232_225, Q_NB227_232, Q_NB232_227, fun h0_ => absurd ((hoff 20 (by kernel_rfl)).symm.trans h0_) (by decide), Q_X19_⟩
        refine steps_cons ?_ ?_
        · rintro b a w' ⟨gb232, m19_, ha, Q_BK224, Q_BK225, Q_BK227, Q_HB, Q_BK232, Q_GW232, Q_GE232, Q_NB224_232, Q_NB232_224, Q_NB225_232, Q_NB232_225, Q_NB227_232, Q_NB232_227, Q_BK232_e20, Q_X19_⟩ hb_ hon hoff
          refine ⟨_, rfl, fun K hK => ?_⟩
          replace ha := Aside0.mk ha
          have BK224 := Aside0.mk Q_BK224
          have BK225 := Aside0.mk Q_BK225
          have BK227 := Aside0.mk Q_BK227
          have HB := Aside0.mk Q_HB
          refine box_step ?hg (N := 7) ?hd (cs := #[.int .i64 0, .int .i64 0, .int .i64 0, .int .i64 0, .int .i64 0, .int .i64 0]) (t := 23) ?hr ?_; (case hd => rfl); (case hg => rfl); (case hr => first | (go_simp; done) | (go_simp; rfl))
          intro gb232 hg w30 hbox hb
          have n0_ := Aside0.mk (blk_below (g := gb224) (o := .cells #[.int .i64 a0_0, .int .i64 a0_1, .int .i64 a0_2, .int .i64 a0_3, .int .i64 a0_4, .int .i64 a0_5] 23 (0, 0)) (by (with_reducible repeat (first | refine bN_ ?_ _ | refine bD_ ?_ | refine bA_ ?_ _)); exact BK224.out) hb)
          have n1_ := Aside0.mk (blk_below (g := gb225) (o := .cells #[.int .i64 x226000_11, .int .i64 x226001_11, .int .i64 x226002_11, .int .i64 x226003_11, .int .i64 x226004_11, .int .i64 x226005_11] 23 (0, 0)) (by (with_reducible repeat (first | refine bN_ ?_ _ | refine bD_ ?_ | refine bA_ ?_ _)); exact BK225.out) hb)
          have n2_ := Aside0.mk (blk_below (g := gb227) (o := .cells #[.int .i64 (wrap64 ((wrap64 (a0_0 * a0_3)) - (wrap64 (a0_1 * a0_2))))] 3 (0, 0)) (by (with_reducible repeat (first | refine bN_ ?_ _ | refine bD_ ?_ | refine bA_ ?_ _)); exact BK227.out) hb)
          have n3_ := Aside0.mk (below_step (by repeat (first | (with_reducible first | exact HB.out | apply lA_ | apply lN_ | apply lD_ | refine lS_ ?_ GE224.out | refine lS_ ?_ GE225.out | refine lS_ ?_ GE227.out) | exact HB.out)) hb)
          have n4_ := Aside0.mk (hbox)
          have n5_ := Aside0.mk ((by rw [hg]; exact (below_size (by repeat (first | (with_reducible first | exact HB.out | apply lA_ | apply lN_ | apply lD_ | refine lS_ ?_ GE224.out | refine lS_ ?_ GE225.out | refine lS_ ?_ GE227.out) | exact HB.out))) : w.heap.size ≤ gb232))
          have n6_ := Aside0.mk ((by rw [hg]; exact (below_size (by repeat (first | (with_reducible first | exact HB.out | apply lA_ | apply lN_ | apply lD_ | refine lS_ ?_ GE224.out | refine lS_ ?_ GE225.out | refine lS_ ?_ GE227.out) | exact HB.out))) : w.heap.size ≤ gb232))
          have n7_ := Aside0.mk ((by rw [hg]; exact Nat.ne_of_lt (blk_lt (g := gb224) (o := .cells #[.int .i64 a0_0, .int .i64 a0_1, .int .i64 a0_2, .int .i64 a0_3, .int .i64 a0_4, .int .i64 a0_5] 23 (0, 0)) (by (with_reducible repeat (first | refine bN_ ?_ _ | refine bD_ ?_ | refine bA_ ?_ _)); exact BK224.out)) : gb224 ≠ gb232))
          have n8_ := Aside0.mk ((by rw [hg]; exact Nat.ne_of_gt (blk_lt (g := gb224) (o := .cells #[.int .i64 a0_0, .int .i64 a0_1, .int .i64 a0_2, .int .i64 a0_3, .int .i64 a0_4, .int .i64 a0_5] 23 (0, 0)) (by (with_reducible repeat (first | refine bN_ ?_ _ | refine bD_ ?_ | refine bA_ ?_ _)); exact BK224.out)) : gb232 ≠ gb224))
          have n9_ := Aside0.mk ((by rw [hg]; exact Nat.ne_of_lt (blk_lt (g := gb225) (o := .cells #[.int .i64 x226000_11, .int .i64 x226001_11, .int .i64 x226002_11, .int .i64 x226003_11, .int .i64 x226004_11, .int .i64 x226005_11] 23 (0, 0)) (by (with_reducible repeat (first | refine bN_ ?_ _ | refine bD_ ?_ | refine bA_ ?_ _)); exact BK225.out)) : gb225 ≠ gb232))
          have n10_ := Aside0.mk ((by rw [hg]; exact Nat.ne_of_gt (blk_lt (g := gb225) (o := .cells #[.int .i64 x226000_11, .int .i64 x226001_11, .int .i64 x226002_11, .int .i64 x226003_11, .int .i64 x226004_11, .int .i64 x226005_11] 23 (0, 0)) (by (with_reducible repeat (first | refine bN_ ?_ _ | refine bD_ ?_ | refine bA_ ?_ _)); exact BK225.out)) : gb232 ≠ gb225))
          have n11_ := Aside0.mk ((by rw [hg]; exact Nat.ne_of_lt (blk_lt (g := gb227) (o := .cells #[.int .i64 (wrap64 ((wrap64 (a0_0 * a0_3)) - (wrap64 (a0_1 * a0_2))))] 3 (0, 0)) (by (with_reducible repeat (first | refine bN_ ?_ _ | refine bD_ ?_ | refine bA_ ?_ _)); exact BK227.out)) : gb227 ≠ gb232))
          have n12_ := Aside0.mk ((by rw [hg]; exact Nat.ne_of_gt (blk_lt (g := gb227) (o := .cells #[.int .i64 (wrap64 ((wrap64 (a0_0 * a0_3)) - (wrap64 (a0_1 * a0_2))))] 3 (0, 0)) (by (with_reducible repeat (first | refine bN_ ?_ _ | refine bD_ ?_ | refine bA_ ?_ _)); exact BK227.out)) : gb232 ≠ gb227))
          clear BK224 BK225 BK227 HB
          have BK224 := n0_; have BK225 := n1_; have BK227 := n2_; have HB := n3_; have BK232 := n4_; have GW232 := n5_; have GE232 := n6_; have NB224_232 := n7_; have NB232_224 := n8_; have NB225_232 := n9_; have NB232_225 := n10_; have NB227_232 := n11_; have NB232_227 := n12_
          clear n0_ n1_ n2_ n3_ n4_ n5_ n6_ n7_ n8_ n9_ n10_ n11_ n12_ hb hbox hg
          refine hK.out _ _ ⟨gb232, (.pointer (some ⟨gb232, 0, none⟩)), (by rw [ha.out]; exact putSel_upk 11 hb_ rfl rfl rfl), (by (with_reducible repeat (first | refine bN_ ?_ _ | refine bD_ ?_ | refine bA_ ?_ _)); exact BK224.out), (by (with_reducible repeat (first | refine bN_ ?_ _ | refine bD_ ?_ | refine bA_ ?_ _)); exact BK225.out), (by (with_reducible repeat (first | refine bN_ ?_ _ | refine bD_ ?_ | refine bA_ ?_ _)); exact BK227.out), (by repeat (first | (with_reducible first | exact HB.out | apply lA_ | apply lN_ | apply lD_ | refine lS_ ?_ GE224.out | refine lS_ ?_ GE225.out | refine lS_ ?_ GE227.out | refine lS_ ?_ GE232.out) | exact HB.out)), fun _ _ => (by (with_reducible repeat (first | refine bN_ ?_ _ | refine bD_ ?_ | refine bA_ ?_ _)); exact BK232.out), fun _ => GW232.out, fun _ => GE232.out, fun _ => NB224_232.out, fun _ => NB232_224.out, fun _ => NB225_232.out, fun _ => NB232_225.out, fun _ => NB227_232.out, fun _ => NB232_227.out, fun h0_ => absurd ((hoff 20 (by kernel_rfl)).symm.trans h0_) (by decide), fun _ => rfl⟩
        refine steps_cons ?_ ?_
        · rintro b a w' ⟨gb232, m19_, ha, Q_BK224, Q_BK225, Q_BK227, Q_HB, Q_BK232, Q_GW232, Q_GE232, Q_NB224_232, Q_NB232_224, Q_NB225_232, Q_NB232_225, Q_NB227_232, Q_NB232_227, Q_BK232_e20, Q_X19_⟩ hb_ hon hoff
          refine ⟨_, rfl, fun K hK => ?_⟩
          have e7 : a.tmps[7]? = some (m19_) := by rw [ha]; exact putSel_on (e := (19, 7, m19_)) 11 rfl rfl (hon 19 (by kernel_rfl)) rfl
          rw [Q_X19_ (hon 19 (by kernel_rfl))] at e7
          have e47 : a.tmps[47]? = some (.agg #[.int .i64 t228, .int .i64 t229, .int .i64 t230, .int .i64 t231, .int .i64 0, .int .i64 0]) := by rw [ha]; exact putSel_on (e := (18, 47, .agg #[.int .i64 t228, .int .i64 t229, .int .i64 t230, .int .i64 t231, .int .i64 0, .int .i64 0])) 10 rfl rfl (hon 18 (by kernel_rfl)) rfl
          replace ha := Aside0.mk ha
          have BK224 := Aside0.mk Q_BK224
          have BK225 := Aside0.mk Q_BK225
          have BK227 := Aside0.mk Q_BK227
          have HB := Aside0.mk Q_HB
          have BK232 := Aside0.mk (Q_BK232 (hon 19 (by kernel_rfl)) hb_)
          have GW232 := Aside0.mk (Q_GW232 (hon 19 (by kernel_rfl)))
          have GE232 := Aside0.mk (Q_GE232 (hon 19 (by kernel_rfl)))
          have NB224_232 := Aside0.mk (Q_NB224_232 (hon 19 (by kernel_rfl)))
          have NB232_224 := Aside0.mk (Q_NB232_224 (hon 19 (by kernel_rfl)))
          have NB225_232 := Aside0.mk (Q_NB225_232 (hon 19 (by kernel_rfl)))
          have NB232_225 := Aside0.mk (Q_NB232_225 (hon 19 (by kernel_rfl)))
          have NB227_232 := Aside0.mk (Q_NB227_232 (hon 19 (by kernel_rfl)))
          have NB232_227 := Aside0.mk (Q_NB232_227 (hon 19 (by kernel_rfl)))
          have hs36 : w'.cell? ⟨gb232, 0, none⟩ = some (.int .i64 0) := (blk_cell BK232.out 0).trans rfl
          have hfs36 := blk_frozen BK232.out 0
          have hns36_0 := NB224_232.out
          have hns36_1 := NB225_232.out
          have hns36_2 := NB227_232.out
          have hms36_0 := NB232_224.out
          have hms36_1 := NB232_225.out
          have hms36_2 := NB232_227.out
          have hs37 : w'.cell? ⟨gb232, 1, none⟩ = some (.int .i64 0) := (blk_cell BK232.out 1).trans rfl
          have hfs37 := blk_frozen BK232.out 1
          have hns37_0 := NB224_232.out
          have hns37_1 := NB225_232.out
          have hns37_2 := NB227_232.out
          have hms37_0 := NB232_224.out
          have hms37_1 := NB232_225.out
          have hms37_2 := NB232_227.out
          have hs38 : w'.cell? ⟨gb232, 2, none⟩ = some (.int .i64 0) := (blk_cell BK232.out 2).trans rfl
          have hfs38 := blk_frozen BK232.out 2
          have hns38_0 := NB224_232.out
          have hns38_1 := NB225_232.out
          have hns38_2 := NB227_232.out
          have hms38_0 := NB232_224.out
          have hms38_1 := NB232_225.out
          have hms38_2 := NB232_227.out
          have hs39 : w'.cell? ⟨gb232, 3, none⟩ = some (.int .i64 0) := (blk_cell BK232.out 3).trans rfl
          have hfs39 := blk_frozen BK232.out 3
          have hns39_0 := NB224_232.out
          have hns39_1 := NB225_232.out
          have hns39_2 := NB227_232.out
          have hms39_0 := NB232_224.out
          have hms39_1 := NB232_225.out
          have hms39_2 := NB232_227.out
          have hs40 : w'.cell? ⟨gb232, 4, none⟩ = some (.int .i64 0) := (blk_cell BK232.out 4).trans rfl
          have hfs40 := blk_frozen BK232.out 4
          have hns40_0 := NB224_232.out
          have hns40_1 := NB225_232.out
          have hns40_2 := NB227_232.out
          have hms40_0 := NB232_224.out
          have hms40_1 := NB232_225.out
          have hms40_2 := NB232_227.out
          have hs41 : w'.cell? ⟨gb232, 5, none⟩ = some (.int .i64 0) := (blk_cell BK232.out 5).trans rfl
          have hfs41 := blk_frozen BK232.out 5
          have hns41_0 := NB224_232.out
          have hns41_1 := NB225_232.out
          have hns41_2 := NB227_232.out
          have hms41_0 := NB232_224.out
          have hms41_1 := NB232_225.out
          have hms41_2 := NB232_227.out
          refine skip_ (w1 := ?_) (by rfl) rfl ?_ ?_
          rotate_left
          · go_simp
            rfl
          refine hK.out _ _ ⟨gb232, m19_, (by rw [ha.out]; exact putSel_none (v := undef) rfl), (by (with_reducible repeat (first | refine bN_ ?_ _ | refine bD_ ?_ | refine bA_ ?_ _)); refine blk_far ?_ NB224_232.out _; (with_reducible repeat (first | refine bN_ ?_ _ | refine bD_ ?_ | refine bA_ ?_ _)); refine blk_far ?_ NB224_232.out _; (with_reducible repeat (first | refine bN_ ?_ _ | refine bD_ ?_ | refine bA_ ?_ _)); refine blk_far ?_ NB224_232.out _; (with_reducible repeat (first | refine bN_ ?_ _ | refine bD_ ?_ | refine bA_ ?_ _)); refine blk_far ?_ NB224_232.out _; (with_reducible repeat (first | refine bN_ ?_ _ | refine bD_ ?_ | refine bA_ ?_ _)); refine blk_far ?_ NB224_232.out _; (with_reducible repeat (first | refine bN_ ?_ _ | refine bD_ ?_ | refine bA_ ?_ _)); refine blk_far ?_ NB224_232.out _; (with_reducible repeat (first | refine bN_ ?_ _ | refine bD_ ?_ | refine bA_ ?_ _)); exact BK224.out), (by (with_reducible repeat (first | refine bN_ ?_ _ | refine bD_ ?_ | refine bA_ ?_ _)); refine blk_far ?_ NB225_232.out _; (with_reducible repeat (first | refine bN_ ?_ _ | refine bD_ ?_ | refine bA_ ?_ _)); refine blk_far ?_ NB225_232.out _; (with_reducible repeat (first | refine bN_ ?_ _ | refine bD_ ?_ | refine bA_ ?_ _)); refine blk_far ?_ NB225_232.out _; (with_reducible repeat (first | refine bN_ ?_ _ | refine bD_ ?_ | refine bA_ ?_ _)); refine blk_far ?_ NB225_232.out _; (with_reducible repeat (first | refine bN_ ?_ _ | refine bD_ ?_ | refine bA_ ?_ _)); refine blk_far ?_ NB225_232.out _; (with_reducible repeat (first | refine bN_ ?_ _ | refine bD_ ?_ | refine bA_ ?_ _)); refine blk_far ?_ NB225_232.out _; (with_reducible repeat (first | refine bN_ ?_ _ | refine bD_ ?_ | refine bA_ ?_ _)); exact BK225.out), (by (with_reducible repeat (first | refine bN_ ?_ _ | refine bD_ ?_ | refine bA_ ?_ _)); refine blk_far ?_ NB227_232.out _; (with_reducible repeat (first | refine bN_ ?_ _ | refine bD_ ?_ | refine bA_ ?_ _)); refine blk_far ?_ NB227_232.out _; (with_reducible repeat (first | refine bN_ ?_ _ | refine bD_ ?_ | refine bA_ ?_ _)); refine blk_far ?_ NB227_232.out _; (with_reducible repeat (first | refine bN_ ?_ _ | refine bD_ ?_ | refine bA_ ?_ _)); refine blk_far ?_ NB227_232.out _; (with_reducible repeat (first | refine bN_ ?_ _ | refine bD_ ?_ | refine bA_ ?_ _)); refine blk_far ?_ NB227_232.out _; (with_reducible repeat (first | refine bN_ ?_ _ | refine bD_ ?_ | refine bA_ ?_ _)); refine blk_far ?_ NB227_232.out _; (with_reducible repeat (first | refine bN_ ?_ _ | refine bD_ ?_ | refine bA_ ?_ _)); exact BK227.out), (by repeat (first | (with_reducible first | exact HB.out | apply lA_ | apply lN_ | apply lD_ | refine lS_ ?_ GE224.out | refine lS_ ?_ GE225.out | refine lS_ ?_ GE227.out | refine lS_ ?_ GE232.out) | exact HB.out)), fun _ h1_ => absurd ((up_self b 20).symm.trans h1_) (by decide), fun _ => GW232.out, fun _ => GE232.out, fun _ => NB224_232.out, fun _ => NB232_224.out, fun _ => NB225_232.out, fun _ => NB232_225.out, fun _ => NB227_232.out, fun _ => NB232_227.out, fun _ => (by (with_reducible repeat (first | refine bN_ ?_ _ | refine bD_ ?_ | refine bA_ ?_ _)); refine blk_put (cs := #[.int .i64 t228, .int .i64 t229, .int .i64 t230, .int .i64 t231, .int .i64 0, .int .i64 0]) ?_ 5 _ rfl; (with_reducible repeat (first | refine bN_ ?_ _ | refine bD_ ?_ | refine bA_ ?_ _)); refine blk_put (cs := #[.int .i64 t228, .int .i64 t229, .int .i64 t230, .int .i64 t231, .int .i64 0, .int .i64 0]) ?_ 4 _ rfl; (with_reducible repeat (first | refine bN_ ?_ _ | refine bD_ ?_ | refine bA_ ?_ _)); refine blk_put (cs := #[.int .i64 t228, .int .i64 t229, .int .i64 t230, .int .i64 0, .int .i64 0, .int .i64 0]) ?_ 3 _ rfl; (with_reducible repeat (first | refine bN_ ?_ _ | refine bD_ ?_ | refine bA_ ?_ _)); refine blk_put (cs := #[.int .i64 t228, .int .i64 t229, .int .i64 0, .int .i64 0, .int .i64 0, .int .i64 0]) ?_ 2 _ rfl; (with_reducible repeat (first | refine bN_ ?_ _ | refine bD_ ?_ | refine bA_ ?_ _)); refine blk_put (cs := #[.int .i64 t228, .int .i64 0, .int .i64 0, .int .i64 0, .int .i64 0, .int .i64 0]) ?_ 1 _ rfl; (with_reducible repeat (first | refine bN_ ?_ _ | refine bD_ ?_ | refine bA_ ?_ _)); refine blk_put (cs := #[.int .i64 0, .int .i64 0, .int .i64 0, .int .i64 0, .int .i64 0, .int .i64 0]) ?_ 0 _ rfl; (with_reducible repeat (first | refine bN_ ?_ _ | refine bD_ ?_ | refine bA_ ?_ _)); exact BK232.out), Q_X19_⟩
        exact steps_nil
      rintro b a w41 hall ⟨gb232, m19_, ha, Q_BK224, Q_BK225, Q_BK227, Q_HB, Q_BK232, Q_GW232, Q_GE232, Q_NB224_232, Q_NB232_224, Q_NB225_232, Q_NB232_225, Q_NB227_232, Q_NB232_227, Q_BK232_e20, Q_X19_⟩
      clear BK224 BK225 BK227 HB
      have hb2_ := hall 2 (by kernel_rfl)
      have hb3_ := hall 3 (by kernel_rfl)
      have hb6_ := hall 6 (by kernel_rfl)
      have hb7_ := hall 7 (by kernel_rfl)
      have hb8_ := hall 8 (by kernel_rfl)
      have hb11_ := hall 11 (by kernel_rfl)
      have hb12_ := hall 12 (by kernel_rfl)
      have hb13_ := hall 13 (by kernel_rfl)
      have hb16_ := hall 16 (by kernel_rfl)
      have hb17_ := hall 17 (by kernel_rfl)
      have hb18_ := hall 18 (by kernel_rfl)
      have hb19_ := hall 19 (by kernel_rfl)
      have hb20_ := hall 20 (by kernel_rfl)
      subst ha
      obtain rfl := Q_X19_ hb19_
      simp only [putSel, hb2_, hb3_, hb6_, hb7_, hb8_, hb11_, hb12_, hb13_, hb16_, hb17_, hb18_, hb19_, hb20_, if_true, Act.put, tS_, tZ_, tC_]
      have BK224 := Aside0.mk Q_BK224
      clear Q_BK224
      have BK225 := Aside0.mk Q_BK225
      clear Q_BK225
      have BK227 := Aside0.mk Q_BK227
      clear Q_BK227
      have HB := Aside0.mk Q_HB
      clear Q_HB Q_BK232
      have GW232 := Aside0.mk (Q_GW232 hb19_)
      clear Q_GW232
      have GE232 := Aside0.mk (Q_GE232 hb19_)
      clear Q_GE232
      have NB224_232 := Aside0.mk (Q_NB224_232 hb19_)
      clear Q_NB224_232
      have NB232_224 := Aside0.mk (Q_NB232_224 hb19_)
      clear Q_NB232_224
      have NB225_232 := Aside0.mk (Q_NB225_232 hb19_)
      clear Q_NB225_232
      have NB232_225 := Aside0.mk (Q_NB232_225 hb19_)
      clear Q_NB232_225
      have NB227_232 := Aside0.mk (Q_NB227_232 hb19_)
      clear Q_NB227_232
      have NB232_227 := Aside0.mk (Q_NB232_227 hb19_)
      clear Q_NB232_227
      have BK232 := Aside0.mk (Q_BK232_e20 hb20_)
      clear Q_BK232_e20 hall hb2_ hb3_ hb6_ hb7_ hb8_ hb11_ hb12_ hb13_ hb16_ hb17_ hb18_ hb19_ hb20_
      have hnb42 := NB232_224.out
      have hnc42 := NB224_232.out
      have hnb43 := NB232_225.out
      have hnc43 := NB225_232.out
      have hnb44 := NB232_227.out
      have hnc44 := NB227_232.out
      have hcz45_0 : w41.cell? ⟨gb232, 0, none⟩ = some (.int .i64 t228) := (blk_cell BK232.out 0).trans rfl
      have hcz45_1 : w41.cell? ⟨gb232, 1, none⟩ = some (.int .i64 t229) := (blk_cell BK232.out 1).trans rfl
      have hcz45_2 : w41.cell? ⟨gb232, 2, none⟩ = some (.int .i64 t230) := (blk_cell BK232.out 2).trans rfl
      have hcz45_3 : w41.cell? ⟨gb232, 3, none⟩ = some (.int .i64 t231) := (blk_cell BK232.out 3).trans rfl
      have hcz45_4 : w41.cell? ⟨gb232, 4, none⟩ = some (.int .i64 0) := (blk_cell BK232.out 4).trans rfl
      have hcz45_5 : w41.cell? ⟨gb232, 5, none⟩ = some (.int .i64 0) := (blk_cell BK232.out 5).trans rfl
      have hfz45_0 := blk_frozen BK232.out 0
      have hfz45_1 := blk_frozen BK232.out 1
      have hfz45_2 := blk_frozen BK232.out 2
      have hfz45_3 := blk_frozen BK232.out 3
      have hfz45_4 := blk_frozen BK232.out 4
      have hfz45_5 := blk_frozen BK232.out 5
      go_upto_if 50 with (first | ((with_reducible refine gate_callee (f := 10) rfl ?_); refine goesL_ (some 49) rfl rfl Try.func10 (by kernel_rfl) rfl #[.agg #[.int .i64 t228, .int .i64 t229, .int .i64 t230, .int .i64 t231, .int .i64 0, .int .i64 0]] rfl (by (try simp only [List.map_toArray, List.map_cons, List.map_nil]); first | done | rfl | (simp only [List.length_drop, List.length_take]; rfl)) ?_; (with_reducible refine (affine_Check.calls t228 t229 t230 t231 0 0 t233 _ A27.out).mono ?_); rintro e w46 ⟨rfl, hb⟩; refine ⟨_, rfl, ?_⟩; have n0_ := Aside0.mk (blk_below (g := gb224) (o := .cells #[.int .i64 a0_0, .int .i64 a0_1, .int .i64 a0_2, .int .i64 a0_3, .int .i64 a0_4, .int .i64 a0_5] 23 (0, 0)) (by (with_reducible repeat (first | refine bN_ ?_ _ | refine bD_ ?_ | refine bA_ ?_ _)); exact BK224.out) hb); have n1_ := Aside0.mk (blk_below (g := gb225) (o := .cells #[.int .i64 x226000_11, .int .i64 x226001_11, .int .i64 x226002_11, .int .i64 x226003_11, .int .i64 x226004_11, .int .i64 x226005_11] 23 (0, 0)) (by (with_reducible repeat (first | refine bN_ ?_ _ | refine bD_ ?_ | refine bA_ ?_ _)); exact BK225.out) hb); have n2_ := Aside0.mk (blk_below (g := gb227) (o := .cells #[.int .i64 (wrap64 ((wrap64 (a0_0 * a0_3)) - (wrap64 (a0_1 * a0_2))))] 3 (0, 0)) (by (with_reducible repeat (first | refine bN_ ?_ _ | refine bD_ ?_ | refine bA_ ?_ _)); exact BK227.out) hb); have n3_ := Aside0.mk (blk_below (g := gb232) (o := .cells #[.int .i64 t228, .int .i64 t229, .int .i64 t230, .int .i64 t231, .int .i64 0, .int .i64 0] 23 (0, 0)) (by (with_reducible repeat (first | refine bN_ ?_ _ | refine bD_ ?_ | refine bA_ ?_ _)); exact BK232.out) hb); have n4_ := Aside0.mk (below_step (by repeat (first | (with_reducible first | exact HB.out | apply lA_ | apply lN_ | apply lD_ | refine lS_ ?_ GE224.out | refine lS_ ?_ GE225.out | refine lS_ ?_ GE227.out | refine lS_ ?_ GE232.out) | exact HB.out)) hb); clear BK224; clear BK225; clear BK227; clear BK232; clear HB; have BK224 := n0_; have BK225 := n1_; have BK227 := n2_; have BK232 := n3_; have HB := n4_; clear n0_ n1_ n2_ n3_ n4_; (try clear hb); (try clear hb2); (try clear hk); (try clear hi)))
      (try simp only [Act.put, tS_, tZ_, tC_])
      go_cut [] (fun wc => ∃ (kq : Nat) (x226000_27 : Int) (x226001_27 : Int) (x226002_27 : Int) (x226003_27 : Int) (x226004_27 : Int) (x226005_27 : Int), Aside0 (affine_Inverse.j2 kq a0_0 a0_1 a0_2 a0_3 a0_4 a0_5 t228 t229 t230 t231 0 0 = some (r1, r2, r3, r4, r5, r6, r7)) ∧ Aside0 (kq ≤ kj11) ∧ Aside0 (wc.heap[gb224]? = some (.cells #[.int .i64 a0_0, .int .i64 a0_1, .int .i64 a0_2, .int .i64 a0_3, .int .i64 a0_4, .int .i64 a0_5] 23 (0, 0))) ∧ Aside0 (wc.heap[gb225]? = some (.cells #[.int .i64 x226000_27, .int .i64 x226001_27, .int .i64 x226002_27, .int .i64 x226003_27, .int .i64 x226004_27, .int .i64 x226005_27] 23 (0, 0))) ∧ Aside0 (wc.heap[gb227]? = some (.cells #[.int .i64 (wrap64 ((wrap64 (a0_0 * a0_3)) - (wrap64 (a0_1 * a0_2))))] 3 (0, 0))) ∧ Aside0 (wc.heap[gb232]? = some (.cells #[.int .i64 t228, .int .i64 t229, .int .i64 t230, .int .i64 t231, .int .i64 0, .int .i64 0] 23 (0, 0))) ∧ Aside0 (Below w.heap.size w wc))
      case first =>
        have H := HC28.out
        clear HC28
        by_cases c47 : t233 = 0
        · rw [if_pos c47] at H
          have c47b0 : (t233 == 0) = true := beq_iff_eq.mpr c47
          have c47b1 : (t233 != 0) = false := bne_eq_false_iff_eq.mpr c47
          clear c47
          (first | rw [c47b0] | (simp only [i64_w, i32_w]; rw [c47b0]) | skip)
          have H' := Aside0.mk H
          clear H
          go_wp2
          go_meet
          case rel => exact ⟨_, (x226000_11), (x226001_11), (x226002_11), (x226003_11), (x226004_11), (x226005_11), H', ⟨by have := HJ2.out; have := HJ11.out; first | omega | exact Nat.le_refl _⟩, ⟨by (with_reducible repeat (first | refine bN_ ?_ _ | refine bD_ ?_ | refine bA_ ?_ _)); exact BK224.out⟩, ⟨by (with_reducible repeat (first | refine bN_ ?_ _ | refine bD_ ?_ | refine bA_ ?_ _)); exact BK225.out⟩, ⟨by (with_reducible repeat (first | refine bN_ ?_ _ | refine bD_ ?_ | refine bA_ ?_ _)); exact BK227.out⟩, ⟨by (with_reducible repeat (first | refine bN_ ?_ _ | refine bD_ ?_ | refine bA_ ?_ _)); exact BK232.out⟩, ⟨by repeat (first | (with_reducible first | exact HB.out | apply lA_ | apply lN_ | apply lD_ | refine lS_ ?_ GE224.out | refine lS_ ?_ GE225.out | refine lS_ ?_ GE227.out | refine lS_ ?_ GE232.out) | exact HB.out)⟩⟩
        · rw [if_neg c47] at H
          have c47b0 : (t233 == 0) = false := beq_eq_false_iff_ne.mpr c47
          have c47b1 : (t233 != 0) = true := bne_iff_ne.mpr c47
          (first | rw [c47b0] | (simp only [i64_w, i32_w]; rw [c47b0]) | skip)
          simp only [Option.some.injEq, Prod.mk.injEq] at H
          obtain ⟨rfl, rfl, rfl, rfl, rfl, rfl, rfl⟩ := H
          have hnb48 := NB225_224.out
          have hnc48 := NB224_225.out
          have hnb49 := NB225_227.out
          have hnc49 := NB227_225.out
          have hnb50 := NB225_232.out
          have hnc50 := NB232_225.out
          have hcz51_0 : w46.cell? ⟨gb225, 0, none⟩ = some (.int .i64 x226000_11) := (blk_cell BK225.out 0).trans rfl
          have hcz51_1 : w46.cell? ⟨gb225, 1, none⟩ = some (.int .i64 x226001_11) := (blk_cell BK225.out 1).trans rfl
          have hcz51_2 : w46.cell? ⟨gb225, 2, none⟩ = some (.int .i64 x226002_11) := (blk_cell BK225.out 2).trans rfl
          have hcz51_3 : w46.cell? ⟨gb225, 3, none⟩ = some (.int .i64 x226003_11) := (blk_cell BK225.out 3).trans rfl
          have hcz51_4 : w46.cell? ⟨gb225, 4, none⟩ = some (.int .i64 x226004_11) := (blk_cell BK225.out 4).trans rfl
          have hcz51_5 : w46.cell? ⟨gb225, 5, none⟩ = some (.int .i64 x226005_11) := (blk_cell BK225.out 5).trans rfl
          have hfz51_0 := blk_frozen BK225.out 0
          have hfz51_1 := blk_frozen BK225.out 1
          have hfz51_2 := blk_frozen BK225.out 2
          have hfz51_3 := blk_frozen BK225.out 3
          have hfz51_4 := blk_frozen BK225.out 4
          have hfz51_5 := blk_frozen BK225.out 5
          go_wp2
          refine bodyPost_ret (results_ct rfl _ _ gb225 23 #[.int .i64 0, .int .i64 0, .int .i64 0, .int .i64 0, .int .i64 0, .int .i64 0] (0, 0) _ rfl (by (with_reducible repeat (first | refine bN_ ?_ _ | refine bD_ ?_ | refine bA_ ?_ _)); refine blk_put (cs := #[.int .i64 0, .int .i64 0, .int .i64 0, .int .i64 0, .int .i64 0, .int .i64 x226005_11]) ?_ 5 _ rfl; (with_reducible repeat (first | refine bN_ ?_ _ | refine bD_ ?_ | refine bA_ ?_ _)); refine blk_put (cs := #[.int .i64 0, .int .i64 0, .int .i64 0, .int .i64 0, .int .i64 x226004_11, .int .i64 x226005_11]) ?_ 4 _ rfl; (with_reducible repeat (first | refine bN_ ?_ _ | refine bD_ ?_ | refine bA_ ?_ _)); refine blk_put (cs := #[.int .i64 0, .int .i64 0, .int .i64 0, .int .i64 x226003_11, .int .i64 x226004_11, .int .i64 x226005_11]) ?_ 3 _ rfl; (with_reducible repeat (first | refine bN_ ?_ _ | refine bD_ ?_ | refine bA_ ?_ _)); refine blk_put (cs := #[.int .i64 0, .int .i64 0, .int .i64 x226002_11, .int .i64 x226003_11, .int .i64 x226004_11, .int .i64 x226005_11]) ?_ 2 _ rfl; (with_reducible repeat (first | refine bN_ ?_ _ | refine bD_ ?_ | refine bA_ ?_ _)); refine blk_put (cs := #[.int .i64 0, .int .i64 x226001_11, .int .i64 x226002_11, .int .i64 x226003_11, .int .i64 x226004_11, .int .i64 x226005_11]) ?_ 1 _ rfl; (with_reducible repeat (first | refine bN_ ?_ _ | refine bD_ ?_ | refine bA_ ?_ _)); refine blk_put (cs := #[.int .i64 x226000_11, .int .i64 x226001_11, .int .i64 x226002_11, .int .i64 x226003_11, .int .i64 x226004_11, .int .i64 x226005_11]) ?_ 0 _ rfl; (with_reducible repeat (first | refine bN_ ?_ _ | refine bD_ ?_ | refine bA_ ?_ _)); exact BK225.out) Try.underlying23 rfl (by kernel_rfl)) rfl ?_
          exact ⟨by first | rfl | (simp [errW_none, errW_some] <;> rfl) | (simp [*, errW_none, errW_some] <;> rfl), by repeat (first | (with_reducible first | exact HB.out | apply lA_ | apply lN_ | apply lD_ | refine lS_ ?_ GE224.out | refine lS_ ?_ GE225.out | refine lS_ ?_ GE227.out | refine lS_ ?_ GE232.out) | exact HB.out)⟩
      clear HC28
      try clear c1
      try clear c2
      try clear p2
      try clear c3
      try clear c4
      try clear c5
      try clear p6
      try clear c10
      try clear c42
      try clear c43
      try clear c44
      try clear c47
      try clear c47b0
      try clear c47b1
      try clear c48
      try clear c49
      try clear c50
      try clear hcz45_0
      try clear hcz45_1
      try clear hcz45_2
      try clear hcz45_3
      try clear hcz45_4
      try clear hcz45_5
      try clear hcz51_0
      try clear hcz51_1
      try clear hcz51_2
      try clear hcz51_3
      try clear hcz51_4
      try clear hcz51_5
      try clear hfz45_0
      try clear hfz45_1
      try clear hfz45_2
      try clear hfz45_3
      try clear hfz45_4
      try clear hfz45_5
      try clear hfz51_0
      try clear hfz51_1
      try clear hfz51_2
      try clear hfz51_3
      try clear hfz51_4
      try clear hfz51_5
      obtain ⟨kq, x226000_27, x226001_27, x226002_27, x226003_27, x226004_27, x226005_27, HA, HJ27, BK224, BK225, BK227, BK232, HB⟩ := hcut
      cases kq with
      | zero => exact absurd HA.out (by simp [affine_Inverse.j2])
      | succ kj27 =>
        have H := HA.out
        clear HA
        simp only [affine_Inverse.j2] at H
        replace H := Option.bind_eq_some_iff.mp H
        obtain ⟨t234, A520, H⟩ := H
        replace H : ((affine_dot.f kj27 (wrap64 (-t229)) (wrap64 (-t231)) a0_4 a0_5).bind fun t235 => ((affine_Check.f t228 t229 t230 t231 t234 t235).bind fun t236 => (if t236 = 0 then (some (t228, t229, t230, t231, t234, t235, 0)) else (some (0, 0, 0, 0, 0, 0, 17))))) = some (r1, r2, r3, r4, r5, r6, r7) := H
        have A52 := Aside0.mk A520
        clear A520
        replace H := Option.bind_eq_some_iff.mp H
        obtain ⟨t235, A530, H⟩ := H
        replace H : ((affine_Check.f t228 t229 t230 t231 t234 t235).bind fun t236 => (if t236 = 0 then (some (t228, t229, t230, t231, t234, t235, 0)) else (some (0, 0, 0, 0, 0, 0, 17)))) = some (r1, r2, r3, r4, r5, r6, r7) := H
        have A53 := Aside0.mk A530
        clear A530
        replace H := Option.bind_eq_some_iff.mp H
        obtain ⟨t236, A540, H⟩ := H
        replace H : (if t236 = 0 then (some (t228, t229, t230, t231, t234, t235, 0)) else (some (0, 0, 0, 0, 0, 0, 17))) = some (r1, r2, r3, r4, r5, r6, r7) := H
        have A54 := Aside0.mk A540
        clear A540
        by_cases c55 : t236 = 0
        · rw [if_pos c55] at H
          have c55b0 : (t236 == 0) = true := beq_iff_eq.mpr c55
          have c55b1 : (t236 != 0) = false := bne_eq_false_iff_eq.mpr c55
          clear c55
          simp only [Option.some.injEq, Prod.mk.injEq] at H
          obtain ⟨rfl, rfl, rfl, rfl, rfl, rfl, rfl⟩ := H
          have hnb56 := NB232_224.out
          have hnc56 := NB224_232.out
          have hnb57 := NB232_225.out
          have hnc57 := NB225_232.out
          have hnb58 := NB232_227.out
          have hnc58 := NB227_232.out
          have hcz59_0 : wc.cell? ⟨gb232, 0, none⟩ = some (.int .i64 t228) := (blk_cell BK232.out 0).trans rfl
          have hcz59_1 : wc.cell? ⟨gb232, 1, none⟩ = some (.int .i64 t229) := (blk_cell BK232.out 1).trans rfl
          have hcz59_2 : wc.cell? ⟨gb232, 2, none⟩ = some (.int .i64 t230) := (blk_cell BK232.out 2).trans rfl
          have hcz59_3 : wc.cell? ⟨gb232, 3, none⟩ = some (.int .i64 t231) := (blk_cell BK232.out 3).trans rfl
          have hcz59_4 : wc.cell? ⟨gb232, 4, none⟩ = some (.int .i64 0) := (blk_cell BK232.out 4).trans rfl
          have hcz59_5 : wc.cell? ⟨gb232, 5, none⟩ = some (.int .i64 0) := (blk_cell BK232.out 5).trans rfl
          have hfz59_0 := blk_frozen BK232.out 0
          have hfz59_1 := blk_frozen BK232.out 1
          have hfz59_2 := blk_frozen BK232.out 2
          have hfz59_3 := blk_frozen BK232.out 3
          have hfz59_4 := blk_frozen BK232.out 4
          have hfz59_5 := blk_frozen BK232.out 5
          have hnb60 := NB224_225.out
          have hnc60 := NB225_224.out
          have hnb61 := NB224_227.out
          have hnc61 := NB227_224.out
          have hcz62_0 : wc.cell? ⟨gb224, 0, none⟩ = some (.int .i64 a0_0) := (blk_cell BK224.out 0).trans rfl
          have hcz62_1 : wc.cell? ⟨gb224, 1, none⟩ = some (.int .i64 a0_1) := (blk_cell BK224.out 1).trans rfl
          have hcz62_2 : wc.cell? ⟨gb224, 2, none⟩ = some (.int .i64 a0_2) := (blk_cell BK224.out 2).trans rfl
          have hcz62_3 : wc.cell? ⟨gb224, 3, none⟩ = some (.int .i64 a0_3) := (blk_cell BK224.out 3).trans rfl
          have hcz62_4 : wc.cell? ⟨gb224, 4, none⟩ = some (.int .i64 a0_4) := (blk_cell BK224.out 4).trans rfl
          have hcz62_5 : wc.cell? ⟨gb224, 5, none⟩ = some (.int .i64 a0_5) := (blk_cell BK224.out 5).trans rfl
          have hfz62_0 := blk_frozen BK224.out 0
          have hfz62_1 := blk_frozen BK224.out 1
          have hfz62_2 := blk_frozen BK224.out 2
          have hfz62_3 := blk_frozen BK224.out 3
          have hfz62_4 := blk_frozen BK224.out 4
          have hfz62_5 := blk_frozen BK224.out 5
          go_wp2_with (first | ((with_reducible refine gate_callee (f := 32) rfl ?_); refine goesL_ (some 62) rfl rfl Try.func32 (by kernel_rfl) rfl #[.int .i64 (wrap64 (-t228)), .int .i64 (wrap64 (-t230)), .int .i64 a0_4, .int .i64 a0_5] rfl (by (try simp only [List.map_toArray, List.map_cons, List.map_nil]); first | done | rfl | (simp only [List.length_drop, List.length_take]; rfl)) ?_; (with_reducible refine (affine_dot.calls kj27 (wrap64 (-t228)) (wrap64 (-t230)) a0_4 a0_5 t234 _ A52.out).mono ?_); rintro e w' ⟨rfl, ⟨nd, rfl⟩⟩; refine ⟨_, rfl, ?_⟩) | ((with_reducible refine gate_callee (f := 32) rfl ?_); refine goesL_ (some 74) rfl rfl Try.func32 (by kernel_rfl) rfl #[.int .i64 (wrap64 (-t229)), .int .i64 (wrap64 (-t231)), .int .i64 a0_4, .int .i64 a0_5] rfl (by (try simp only [List.map_toArray, List.map_cons, List.map_nil]); first | done | rfl | (simp only [List.length_drop, List.length_take]; rfl)) ?_; (with_reducible refine (affine_dot.calls kj27 (wrap64 (-t229)) (wrap64 (-t231)) a0_4 a0_5 t235 _ A53.out).mono ?_); rintro e w' ⟨rfl, ⟨nd, rfl⟩⟩; refine ⟨_, rfl, ?_⟩) | ((with_reducible refine gate_callee (f := 10) rfl ?_); refine goesL_ (some 77) rfl rfl Try.func10 (by kernel_rfl) rfl #[.agg #[.int .i64 t228, .int .i64 t229, .int .i64 t230, .int .i64 t231, .int .i64 t234, .int .i64 t235]] rfl (by (try simp only [List.map_toArray, List.map_cons, List.map_nil]); first | done | rfl | (simp only [List.length_drop, List.length_take]; rfl)) ?_; (with_reducible refine (affine_Check.calls t228 t229 t230 t231 t234 t235 t236 _ A54.out).mono ?_); rintro e w63 ⟨rfl, hb⟩; refine ⟨_, rfl, ?_⟩; have n0_ := Aside0.mk (blk_below (g := gb224) (o := .cells #[.int .i64 a0_0, .int .i64 a0_1, .int .i64 a0_2, .int .i64 a0_3, .int .i64 a0_4, .int .i64 a0_5] 23 (0, 0)) (by (with_reducible repeat (first | refine bN_ ?_ _ | refine bD_ ?_ | refine bA_ ?_ _)); refine blk_far ?_ NB224_232.out _; (with_reducible repeat (first | refine bN_ ?_ _ | refine bD_ ?_ | refine bA_ ?_ _)); refine blk_far ?_ NB224_232.out _; (with_reducible repeat (first | refine bN_ ?_ _ | refine bD_ ?_ | refine bA_ ?_ _)); exact BK224.out) hb); have n1_ := Aside0.mk (blk_below (g := gb225) (o := .cells #[.int .i64 x226000_27, .int .i64 x226001_27, .int .i64 x226002_27, .int .i64 x226003_27, .int .i64 x226004_27, .int .i64 x226005_27] 23 (0, 0)) (by (with_reducible repeat (first | refine bN_ ?_ _ | refine bD_ ?_ | refine bA_ ?_ _)); refine blk_far ?_ NB225_232.out _; (with_reducible repeat (first | refine bN_ ?_ _ | refine bD_ ?_ | refine bA_ ?_ _)); refine blk_far ?_ NB225_232.out _; (with_reducible repeat (first | refine bN_ ?_ _ | refine bD_ ?_ | refine bA_ ?_ _)); exact BK225.out) hb); have n2_ := Aside0.mk (blk_below (g := gb227) (o := .cells #[.int .i64 (wrap64 ((wrap64 (a0_0 * a0_3)) - (wrap64 (a0_1 * a0_2))))] 3 (0, 0)) (by (with_reducible repeat (first | refine bN_ ?_ _ | refine bD_ ?_ | refine bA_ ?_ _)); refine blk_far ?_ NB227_232.out _; (with_reducible repeat (first | refine bN_ ?_ _ | refine bD_ ?_ | refine bA_ ?_ _)); refine blk_far ?_ NB227_232.out _; (with_reducible repeat (first | refine bN_ ?_ _ | refine bD_ ?_ | refine bA_ ?_ _)); exact BK227.out) hb); have n3_ := Aside0.mk (blk_below (g := gb232) (o := .cells #[.int .i64 t228, .int .i64 t229, .int .i64 t230, .int .i64 t231, .int .i64 t234, .int .i64 t235] 23 (0, 0)) (by (with_reducible repeat (first | refine bN_ ?_ _ | refine bD_ ?_ | refine bA_ ?_ _)); refine blk_put (cs := #[.int .i64 t228, .int .i64 t229, .int .i64 t230, .int .i64 t231, .int .i64 t234, .int .i64 0]) ?_ 5 _ rfl; (with_reducible repeat (first | refine bN_ ?_ _ | refine bD_ ?_ | refine bA_ ?_ _)); refine blk_put (cs := #[.int .i64 t228, .int .i64 t229, .int .i64 t230, .int .i64 t231, .int .i64 0, .int .i64 0]) ?_ 4 _ rfl; (with_reducible repeat (first | refine bN_ ?_ _ | refine bD_ ?_ | refine bA_ ?_ _)); exact BK232.out) hb); have n4_ := Aside0.mk (below_step (by repeat (first | (with_reducible first | exact HB.out | apply lA_ | apply lN_ | apply lD_ | refine lS_ ?_ GE224.out | refine lS_ ?_ GE225.out | refine lS_ ?_ GE227.out | refine lS_ ?_ GE232.out) | exact HB.out)) hb); clear BK224; clear BK225; clear BK227; clear BK232; clear HB; have BK224 := n0_; have BK225 := n1_; have BK227 := n2_; have BK232 := n3_; have HB := n4_; clear n0_ n1_ n2_ n3_ n4_; (try clear hb); (try clear hb2); (try clear hk); (try clear hi); have hcz64_0 : w63.cell? ⟨gb232, 0, none⟩ = some (.int .i64 t228) := (blk_cell BK232.out 0).trans rfl; have hcz64_1 : w63.cell? ⟨gb232, 1, none⟩ = some (.int .i64 t229) := (blk_cell BK232.out 1).trans rfl; have hcz64_2 : w63.cell? ⟨gb232, 2, none⟩ = some (.int .i64 t230) := (blk_cell BK232.out 2).trans rfl; have hcz64_3 : w63.cell? ⟨gb232, 3, none⟩ = some (.int .i64 t231) := (blk_cell BK232.out 3).trans rfl; have hcz64_4 : w63.cell? ⟨gb232, 4, none⟩ = some (.int .i64 t234) := (blk_cell BK232.out 4).trans rfl; have hcz64_5 : w63.cell? ⟨gb232, 5, none⟩ = some (.int .i64 t235) := (blk_cell BK232.out 5).trans rfl; have hfz64_0 := blk_frozen BK232.out 0; have hfz64_1 := blk_frozen BK232.out 1; have hfz64_2 := blk_frozen BK232.out 2; have hfz64_3 := blk_frozen BK232.out 3; have hfz64_4 := blk_frozen BK232.out 4; have hfz64_5 := blk_frozen BK232.out 5; have hnb65 := NB225_227.out; have hnc65 := NB227_225.out; have hcz66_0 : w63.cell? ⟨gb225, 0, none⟩ = some (.int .i64 x226000_27) := (blk_cell BK225.out 0).trans rfl; have hcz66_1 : w63.cell? ⟨gb225, 1, none⟩ = some (.int .i64 x226001_27) := (blk_cell BK225.out 1).trans rfl; have hcz66_2 : w63.cell? ⟨gb225, 2, none⟩ = some (.int .i64 x226002_27) := (blk_cell BK225.out 2).trans rfl; have hcz66_3 : w63.cell? ⟨gb225, 3, none⟩ = some (.int .i64 x226003_27) := (blk_cell BK225.out 3).trans rfl; have hcz66_4 : w63.cell? ⟨gb225, 4, none⟩ = some (.int .i64 x226004_27) := (blk_cell BK225.out 4).trans rfl; have hcz66_5 : w63.cell? ⟨gb225, 5, none⟩ = some (.int .i64 x226005_27) := (blk_cell BK225.out 5).trans rfl; have hfz66_0 := blk_frozen BK225.out 0; have hfz66_1 := blk_frozen BK225.out 1; have hfz66_2 := blk_frozen BK225.out 2; have hfz66_3 := blk_frozen BK225.out 3; have hfz66_4 := blk_frozen BK225.out 4; have hfz66_5 := blk_frozen BK225.out 5))
          refine bodyPost_ret (results_ct rfl _ _ gb225 23 #[.int .i64 t228, .int .i64 t229, .int .i64 t230, .int .i64 t231, .int .i64 t234, .int .i64 t235] (0, 0) _ rfl (by (with_reducible repeat (first | refine bN_ ?_ _ | refine bD_ ?_ | refine bA_ ?_ _)); refine blk_put (cs := #[.int .i64 t228, .int .i64 t229, .int .i64 t230, .int .i64 t231, .int .i64 t234, .int .i64 x226005_27]) ?_ 5 _ rfl; (with_reducible repeat (first | refine bN_ ?_ _ | refine bD_ ?_ | refine bA_ ?_ _)); refine blk_put (cs := #[.int .i64 t228, .int .i64 t229, .int .i64 t230, .int .i64 t231, .int .i64 x226004_27, .int .i64 x226005_27]) ?_ 4 _ rfl; (with_reducible repeat (first | refine bN_ ?_ _ | refine bD_ ?_ | refine bA_ ?_ _)); refine blk_put (cs := #[.int .i64 t228, .int .i64 t229, .int .i64 t230, .int .i64 x226003_27, .int .i64 x226004_27, .int .i64 x226005_27]) ?_ 3 _ rfl; (with_reducible repeat (first | refine bN_ ?_ _ | refine bD_ ?_ | refine bA_ ?_ _)); refine blk_put (cs := #[.int .i64 t228, .int .i64 t229, .int .i64 x226002_27, .int .i64 x226003_27, .int .i64 x226004_27, .int .i64 x226005_27]) ?_ 2 _ rfl; (with_reducible repeat (first | refine bN_ ?_ _ | refine bD_ ?_ | refine bA_ ?_ _)); refine blk_put (cs := #[.int .i64 t228, .int .i64 x226001_27, .int .i64 x226002_27, .int .i64 x226003_27, .int .i64 x226004_27, .int .i64 x226005_27]) ?_ 1 _ rfl; (with_reducible repeat (first | refine bN_ ?_ _ | refine bD_ ?_ | refine bA_ ?_ _)); refine blk_put (cs := #[.int .i64 x226000_27, .int .i64 x226001_27, .int .i64 x226002_27, .int .i64 x226003_27, .int .i64 x226004_27, .int .i64 x226005_27]) ?_ 0 _ rfl; (with_reducible repeat (first | refine bN_ ?_ _ | refine bD_ ?_ | refine bA_ ?_ _)); exact BK225.out) Try.underlying23 rfl (by kernel_rfl)) rfl ?_
          exact ⟨by first | rfl | (simp [errW_none, errW_some] <;> rfl) | (simp [*, errW_none, errW_some] <;> rfl), by repeat (first | (with_reducible first | exact HB.out | apply lA_ | apply lN_ | apply lD_ | refine lS_ ?_ GE224.out | refine lS_ ?_ GE225.out | refine lS_ ?_ GE227.out | refine lS_ ?_ GE232.out) | exact HB.out)⟩
        · rw [if_neg c55] at H
          have c55b0 : (t236 == 0) = false := beq_eq_false_iff_ne.mpr c55
          have c55b1 : (t236 != 0) = true := bne_iff_ne.mpr c55
          simp only [Option.some.injEq, Prod.mk.injEq] at H
          obtain ⟨rfl, rfl, rfl, rfl, rfl, rfl, rfl⟩ := H
          have hnb67 := NB232_224.out
          have hnc67 := NB224_232.out
          have hnb68 := NB232_225.out
          have hnc68 := NB225_232.out
          have hnb69 := NB232_227.out
          have hnc69 := NB227_232.out
          have hcz70_0 : wc.cell? ⟨gb232, 0, none⟩ = some (.int .i64 t228) := (blk_cell BK232.out 0).trans rfl
          have hcz70_1 : wc.cell? ⟨gb232, 1, none⟩ = some (.int .i64 t229) := (blk_cell BK232.out 1).trans rfl
          have hcz70_2 : wc.cell? ⟨gb232, 2, none⟩ = some (.int .i64 t230) := (blk_cell BK232.out 2).trans rfl
          have hcz70_3 : wc.cell? ⟨gb232, 3, none⟩ = some (.int .i64 t231) := (blk_cell BK232.out 3).trans rfl
          have hcz70_4 : wc.cell? ⟨gb232, 4, none⟩ = some (.int .i64 0) := (blk_cell BK232.out 4).trans rfl
          have hcz70_5 : wc.cell? ⟨gb232, 5, none⟩ = some (.int .i64 0) := (blk_cell BK232.out 5).trans rfl
          have hfz70_0 := blk_frozen BK232.out 0
          have hfz70_1 := blk_frozen BK232.out 1
          have hfz70_2 := blk_frozen BK232.out 2
          have hfz70_3 := blk_frozen BK232.out 3
          have hfz70_4 := blk_frozen BK232.out 4
          have hfz70_5 := blk_frozen BK232.out 5
          have hnb71 := NB224_225.out
          have hnc71 := NB225_224.out
          have hnb72 := NB224_227.out
          have hnc72 := NB227_224.out
          have hcz73_0 : wc.cell? ⟨gb224, 0, none⟩ = some (.int .i64 a0_0) := (blk_cell BK224.out 0).trans rfl
          have hcz73_1 : wc.cell? ⟨gb224, 1, none⟩ = some (.int .i64 a0_1) := (blk_cell BK224.out 1).trans rfl
          have hcz73_2 : wc.cell? ⟨gb224, 2, none⟩ = some (.int .i64 a0_2) := (blk_cell BK224.out 2).trans rfl
          have hcz73_3 : wc.cell? ⟨gb224, 3, none⟩ = some (.int .i64 a0_3) := (blk_cell BK224.out 3).trans rfl
          have hcz73_4 : wc.cell? ⟨gb224, 4, none⟩ = some (.int .i64 a0_4) := (blk_cell BK224.out 4).trans rfl
          have hcz73_5 : wc.cell? ⟨gb224, 5, none⟩ = some (.int .i64 a0_5) := (blk_cell BK224.out 5).trans rfl
          have hfz73_0 := blk_frozen BK224.out 0
          have hfz73_1 := blk_frozen BK224.out 1
          have hfz73_2 := blk_frozen BK224.out 2
          have hfz73_3 := blk_frozen BK224.out 3
          have hfz73_4 := blk_frozen BK224.out 4
          have hfz73_5 := blk_frozen BK224.out 5
          go_wp2_with (first | ((with_reducible refine gate_callee (f := 32) rfl ?_); refine goesL_ (some 62) rfl rfl Try.func32 (by kernel_rfl) rfl #[.int .i64 (wrap64 (-t228)), .int .i64 (wrap64 (-t230)), .int .i64 a0_4, .int .i64 a0_5] rfl (by (try simp only [List.map_toArray, List.map_cons, List.map_nil]); first | done | rfl | (simp only [List.length_drop, List.length_take]; rfl)) ?_; (with_reducible refine (affine_dot.calls kj27 (wrap64 (-t228)) (wrap64 (-t230)) a0_4 a0_5 t234 _ A52.out).mono ?_); rintro e w' ⟨rfl, ⟨nd, rfl⟩⟩; refine ⟨_, rfl, ?_⟩) | ((with_reducible refine gate_callee (f := 32) rfl ?_); refine goesL_ (some 74) rfl rfl Try.func32 (by kernel_rfl) rfl #[.int .i64 (wrap64 (-t229)), .int .i64 (wrap64 (-t231)), .int .i64 a0_4, .int .i64 a0_5] rfl (by (try simp only [List.map_toArray, List.map_cons, List.map_nil]); first | done | rfl | (simp only [List.length_drop, List.length_take]; rfl)) ?_; (with_reducible refine (affine_dot.calls kj27 (wrap64 (-t229)) (wrap64 (-t231)) a0_4 a0_5 t235 _ A53.out).mono ?_); rintro e w' ⟨rfl, ⟨nd, rfl⟩⟩; refine ⟨_, rfl, ?_⟩) | ((with_reducible refine gate_callee (f := 10) rfl ?_); refine goesL_ (some 77) rfl rfl Try.func10 (by kernel_rfl) rfl #[.agg #[.int .i64 t228, .int .i64 t229, .int .i64 t230, .int .i64 t231, .int .i64 t234, .int .i64 t235]] rfl (by (try simp only [List.map_toArray, List.map_cons, List.map_nil]); first | done | rfl | (simp only [List.length_drop, List.length_take]; rfl)) ?_; (with_reducible refine (affine_Check.calls t228 t229 t230 t231 t234 t235 t236 _ A54.out).mono ?_); rintro e w74 ⟨rfl, hb⟩; refine ⟨_, rfl, ?_⟩; have n0_ := Aside0.mk (blk_below (g := gb224) (o := .cells #[.int .i64 a0_0, .int .i64 a0_1, .int .i64 a0_2, .int .i64 a0_3, .int .i64 a0_4, .int .i64 a0_5] 23 (0, 0)) (by (with_reducible repeat (first | refine bN_ ?_ _ | refine bD_ ?_ | refine bA_ ?_ _)); refine blk_far ?_ NB224_232.out _; (with_reducible repeat (first | refine bN_ ?_ _ | refine bD_ ?_ | refine bA_ ?_ _)); refine blk_far ?_ NB224_232.out _; (with_reducible repeat (first | refine bN_ ?_ _ | refine bD_ ?_ | refine bA_ ?_ _)); exact BK224.out) hb); have n1_ := Aside0.mk (blk_below (g := gb225) (o := .cells #[.int .i64 x226000_27, .int .i64 x226001_27, .int .i64 x226002_27, .int .i64 x226003_27, .int .i64 x226004_27, .int .i64 x226005_27] 23 (0, 0)) (by (with_reducible repeat (first | refine bN_ ?_ _ | refine bD_ ?_ | refine bA_ ?_ _)); refine blk_far ?_ NB225_232.out _; (with_reducible repeat (first | refine bN_ ?_ _ | refine bD_ ?_ | refine bA_ ?_ _)); refine blk_far ?_ NB225_232.out _; (with_reducible repeat (first | refine bN_ ?_ _ | refine bD_ ?_ | refine bA_ ?_ _)); exact BK225.out) hb); have n2_ := Aside0.mk (blk_below (g := gb227) (o := .cells #[.int .i64 (wrap64 ((wrap64 (a0_0 * a0_3)) - (wrap64 (a0_1 * a0_2))))] 3 (0, 0)) (by (with_reducible repeat (first | refine bN_ ?_ _ | refine bD_ ?_ | refine bA_ ?_ _)); refine blk_far ?_ NB227_232.out _; (with_reducible repeat (first | refine bN_ ?_ _ | refine bD_ ?_ | refine bA_ ?_ _)); refine blk_far ?_ NB227_232.out _; (with_reducible repeat (first | refine bN_ ?_ _ | refine bD_ ?_ | refine bA_ ?_ _)); exact BK227.out) hb); have n3_ := Aside0.mk (blk_below (g := gb232) (o := .cells #[.int .i64 t228, .int .i64 t229, .int .i64 t230, .int .i64 t231, .int .i64 t234, .int .i64 t235] 23 (0, 0)) (by (with_reducible repeat (first | refine bN_ ?_ _ | refine bD_ ?_ | refine bA_ ?_ _)); refine blk_put (cs := #[.int .i64 t228, .int .i64 t229, .int .i64 t230, .int .i64 t231, .int .i64 t234, .int .i64 0]) ?_ 5 _ rfl; (with_reducible repeat (first | refine bN_ ?_ _ | refine bD_ ?_ | refine bA_ ?_ _)); refine blk_put (cs := #[.int .i64 t228, .int .i64 t229, .int .i64 t230, .int .i64 t231, .int .i64 0, .int .i64 0]) ?_ 4 _ rfl; (with_reducible repeat (first | refine bN_ ?_ _ | refine bD_ ?_ | refine bA_ ?_ _)); exact BK232.out) hb); have n4_ := Aside0.mk (below_step (by repeat (first | (with_reducible first | exact HB.out | apply lA_ | apply lN_ | apply lD_ | refine lS_ ?_ GE224.out | refine lS_ ?_ GE225.out | refine lS_ ?_ GE227.out | refine lS_ ?_ GE232.out) | exact HB.out)) hb); clear BK224; clear BK225; clear BK227; clear BK232; clear HB; have BK224 := n0_; have BK225 := n1_; have BK227 := n2_; have BK232 := n3_; have HB := n4_; clear n0_ n1_ n2_ n3_ n4_; (try clear hb); (try clear hb2); (try clear hk); (try clear hi); have hnb75 := NB225_227.out; have hnc75 := NB227_225.out; have hcz76_0 : w74.cell? ⟨gb225, 0, none⟩ = some (.int .i64 x226000_27) := (blk_cell BK225.out 0).trans rfl; have hcz76_1 : w74.cell? ⟨gb225, 1, none⟩ = some (.int .i64 x226001_27) := (blk_cell BK225.out 1).trans rfl; have hcz76_2 : w74.cell? ⟨gb225, 2, none⟩ = some (.int .i64 x226002_27) := (blk_cell BK225.out 2).trans rfl; have hcz76_3 : w74.cell? ⟨gb225, 3, none⟩ = some (.int .i64 x226003_27) := (blk_cell BK225.out 3).trans rfl; have hcz76_4 : w74.cell? ⟨gb225, 4, none⟩ = some (.int .i64 x226004_27) := (blk_cell BK225.out 4).trans rfl; have hcz76_5 : w74.cell? ⟨gb225, 5, none⟩ = some (.int .i64 x226005_27) := (blk_cell BK225.out 5).trans rfl; have hfz76_0 := blk_frozen BK225.out 0; have hfz76_1 := blk_frozen BK225.out 1; have hfz76_2 := blk_frozen BK225.out 2; have hfz76_3 := blk_frozen BK225.out 3; have hfz76_4 := blk_frozen BK225.out 4; have hfz76_5 := blk_frozen BK225.out 5))
          refine bodyPost_ret (results_ct rfl _ _ gb225 23 #[.int .i64 0, .int .i64 0, .int .i64 0, .int .i64 0, .int .i64 0, .int .i64 0] (0, 0) _ rfl (by (with_reducible repeat (first | refine bN_ ?_ _ | refine bD_ ?_ | refine bA_ ?_ _)); refine blk_put (cs := #[.int .i64 0, .int .i64 0, .int .i64 0, .int .i64 0, .int .i64 0, .int .i64 x226005_27]) ?_ 5 _ rfl; (with_reducible repeat (first | refine bN_ ?_ _ | refine bD_ ?_ | refine bA_ ?_ _)); refine blk_put (cs := #[.int .i64 0, .int .i64 0, .int .i64 0, .int .i64 0, .int .i64 x226004_27, .int .i64 x226005_27]) ?_ 4 _ rfl; (with_reducible repeat (first | refine bN_ ?_ _ | refine bD_ ?_ | refine bA_ ?_ _)); refine blk_put (cs := #[.int .i64 0, .int .i64 0, .int .i64 0, .int .i64 x226003_27, .int .i64 x226004_27, .int .i64 x226005_27]) ?_ 3 _ rfl; (with_reducible repeat (first | refine bN_ ?_ _ | refine bD_ ?_ | refine bA_ ?_ _)); refine blk_put (cs := #[.int .i64 0, .int .i64 0, .int .i64 x226002_27, .int .i64 x226003_27, .int .i64 x226004_27, .int .i64 x226005_27]) ?_ 2 _ rfl; (with_reducible repeat (first | refine bN_ ?_ _ | refine bD_ ?_ | refine bA_ ?_ _)); refine blk_put (cs := #[.int .i64 0, .int .i64 x226001_27, .int .i64 x226002_27, .int .i64 x226003_27, .int .i64 x226004_27, .int .i64 x226005_27]) ?_ 1 _ rfl; (with_reducible repeat (first | refine bN_ ?_ _ | refine bD_ ?_ | refine bA_ ?_ _)); refine blk_put (cs := #[.int .i64 x226000_27, .int .i64 x226001_27, .int .i64 x226002_27, .int .i64 x226003_27, .int .i64 x226004_27, .int .i64 x226005_27]) ?_ 0 _ rfl; (with_reducible repeat (first | refine bN_ ?_ _ | refine bD_ ?_ | refine bA_ ?_ _)); exact BK225.out) Try.underlying23 rfl (by kernel_rfl)) rfl ?_
          exact ⟨by first | rfl | (simp [errW_none, errW_some] <;> rfl) | (simp [*, errW_none, errW_some] <;> rfl), by repeat (first | (with_reducible first | exact HB.out | apply lA_ | apply lN_ | apply lD_ | refine lS_ ?_ GE224.out | refine lS_ ?_ GE225.out | refine lS_ ?_ GE227.out | refine lS_ ?_ GE232.out) | exact HB.out)⟩

end Go.Proofs.Ytgciphmmfbgkeaa.Q
