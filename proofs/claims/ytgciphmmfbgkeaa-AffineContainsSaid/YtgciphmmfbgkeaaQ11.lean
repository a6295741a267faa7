/- Each Go function of the law as a Lean function, with the proof that its call comes to just that, for every input; written by hp.py, a program of this session over the kit own print of the translation. -/
import Derived.Test.YtgciphmmfbgkeaaQ0
import Derived.Test.YtgciphmmfbgkeaaQ4
import Derived.Test.YtgciphmmfbgkeaaQ10
namespace Go.Proofs.Ytgciphmmfbgkeaa.Q
open Go.RowKit Go.Proofs.YtgciphmmfbgkeaaW.PrintWords Go.Proofs.YtgciphmmfbgkeaaW.PrintLast Go.Proofs.YtgciphmmfbgkeaaW.PrintMore
attribute [local go_sem] max2_int min2_int max_two min_two max_three min_three max_four min_four   -- for this text's walks alone
set_option linter.unusedVariables false
set_option linter.unusedSimpArgs false
open Go.Proofs.Ytgciphmmfbgkeaa.Clo Go.Proofs.Ytgciphmmfbgkeaa.Sin0

/-! ### affine_Box: function 28 -/
mutual
def affine_Box.j0 : Nat → Int → Int → Int → Int → Int → Int → Int → Int → Int → Int → Option (Int × Int × Int × Int × Int)
  | 0, _, _, _, _, _, _, _, _, _, _ => none
  | k + 1, x255000, x255001, x255002, x255003, x255004, x255005, x256000, x256001, x256002, x256003 => (rect_Valid.f x256000 x256001 x256002 x256003).bind fun t258 => (if t258 = true then (affine_Box.j1 k x255000 x255001 x255002 x255003 x255004 x255005 x256000 x256001 x256002 x256003) else (some (0, 0, 0, 0, 2)))
def affine_Box.j1 : Nat → Int → Int → Int → Int → Int → Int → Int → Int → Int → Int → Option (Int × Int × Int × Int × Int)
  | 0, _, _, _, _, _, _, _, _, _, _ => none
  | k + 1, x255000, x255001, x255002, x255003, x255004, x255005, x256000, x256001, x256002, x256003 => (rect_Empty.f x256000 x256001 x256002 x256003).bind fun t259 => (if t259 = true then (some (0, 0, 0, 0, 0)) else (affine_Box.j2 k x255000 x255001 x255002 x255003 x255004 x255005 x256000 x256001 x256002 x256003))
def affine_Box.j2 : Nat → Int → Int → Int → Int → Int → Int → Int → Int → Int → Int → Option (Int × Int × Int × Int × Int)
  | 0, _, _, _, _, _, _, _, _, _, _ => none
  | k + 1, x255000, x255001, x255002, x255003, x255004, x255005, x256000, x256001, x256002, x256003 => (affine_Box_1.f k x256000 x256001 x255000 x255001 x255002 x255003 x255004 x255005).bind fun bt260 => ((affine_Box_1.f k (wrap64 (x256000 + x256002)) x256001 x255000 x255001 x255002 x255003 x255004 x255005).bind fun bt262 => ((affine_Box_1.f k x256000 (wrap64 (x256001 + x256003)) x255000 x255001 x255002 x255003 x255004 x255005).bind fun bt264 => ((affine_Box_1.f k (wrap64 (x256000 + x256002)) (wrap64 (x256001 + x256003)) x255000 x255001 x255002 x255003 x255004 x255005).bind fun bt266 => ((affine_Box_2.f (mn (mn (mn bt260.1 bt262.1) bt264.1) bt266.1)).bind fun t272 => ((affine_Box_3.f (mx (mx (mx bt260.1 bt262.1) bt264.1) bt266.1)).bind fun t273 => ((affine_Box_2.f (mn (mn (mn bt260.2 bt262.2) bt264.2) bt266.2)).bind fun t274 => ((affine_Box_3.f (mx (mx (mx bt260.2 bt262.2) bt264.2) bt266.2)).bind fun t275 => (if t272 ≥ t273 then (affine_Box.j3 k t272 t273 t274 t275 true) else (affine_Box.j3 k t272 t273 t274 t275 (decide (t274 ≥ t275)))))))))))
def affine_Box.j3 : Nat → Int → Int → Int → Int → Bool → Option (Int × Int × Int × Int × Int)
  | 0, _, _, _, _, _ => none
  | k + 1, x14, x15, x16, x17, x119 => if x119 = true then (some (0, 0, 0, 0, 0)) else (some (x14, x16, wrap64 (x15 - x14), wrap64 (x17 - x16), 0))
end
def affine_Box.f (k : Nat) (a0_0 : Int) (a0_1 : Int) (a0_2 : Int) (a0_3 : Int) (a0_4 : Int) (a0_5 : Int) (a1_0 : Int) (a1_1 : Int) (a1_2 : Int) (a1_3 : Int) : Option (Int × Int × Int × Int × Int) := (affine_Check.f a0_0 a0_1 a0_2 a0_3 a0_4 a0_5).bind fun t257 => (if t257 = 0 then (affine_Box.j0 k a0_0 a0_1 a0_2 a0_3 a0_4 a0_5 a1_0 a1_1 a1_2 a1_3) else (some (0, 0, 0, 0, t257)))
theorem affine_Box.mono_l : ∀ k, (∀ y0 y1 y2 y3 y4 y5 y6 y7 y8 y9, LeO (affine_Box.j0 k y0 y1 y2 y3 y4 y5 y6 y7 y8 y9) (affine_Box.j0 (k + 1) y0 y1 y2 y3 y4 y5 y6 y7 y8 y9)) ∧ (∀ y0 y1 y2 y3 y4 y5 y6 y7 y8 y9, LeO (affine_Box.j1 k y0 y1 y2 y3 y4 y5 y6 y7 y8 y9) (affine_Box.j1 (k + 1) y0 y1 y2 y3 y4 y5 y6 y7 y8 y9)) ∧ (∀ y0 y1 y2 y3 y4 y5 y6 y7 y8 y9, LeO (affine_Box.j2 k y0 y1 y2 y3 y4 y5 y6 y7 y8 y9) (affine_Box.j2 (k + 1) y0 y1 y2 y3 y4 y5 y6 y7 y8 y9)) ∧ (∀ y0 y1 y2 y3 y4, LeO (affine_Box.j3 k y0 y1 y2 y3 y4) (affine_Box.j3 (k + 1) y0 y1 y2 y3 y4))
  | 0 => ⟨fun _ _ _ _ _ _ _ _ _ _ r h => by simp [affine_Box.j0] at h, fun _ _ _ _ _ _ _ _ _ _ r h => by simp [affine_Box.j1] at h, fun _ _ _ _ _ _ _ _ _ _ r h => by simp [affine_Box.j2] at h, fun _ _ _ _ _ r h => by simp [affine_Box.j3] at h⟩
  | k + 1 => by
    obtain ⟨ih0, ih1, ih2, ih3⟩ := affine_Box.mono_l k
    refine ⟨?_, ?_, ?_, ?_⟩
    · intro y0 y1 y2 y3 y4 y5 y6 y7 y8 y9
      unfold affine_Box.j0
      repeat' first
      | (with_reducible exact ih0 _ _ _ _ _ _ _ _ _ _)
      | (with_reducible exact ih1 _ _ _ _ _ _ _ _ _ _)
      | (with_reducible exact ih2 _ _ _ _ _ _ _ _ _ _)
      | (with_reducible exact ih3 _ _ _ _ _)
      | (with_reducible exact affine_Box_1.mono _ _ _ _ _ _ _ _ _)
      | (with_reducible exact LeO.refl _)
      | (with_reducible exact LeO.none _)
      | (with_reducible refine LeO.ite ?_ ?_)
      | (with_reducible refine LeO.bind ?_ (fun _ => ?_))
      | exact ih0 _ _ _ _ _ _ _ _ _ _
      | exact ih1 _ _ _ _ _ _ _ _ _ _
      | exact ih2 _ _ _ _ _ _ _ _ _ _
      | exact ih3 _ _ _ _ _
      | exact affine_Box_1.mono _ _ _ _ _ _ _ _ _
      | exact LeO.none _
      | refine LeO.ite ?_ ?_
      | refine LeO.bind ?_ (fun _ => ?_)
    · intro y0 y1 y2 y3 y4 y5 y6 y7 y8 y9
      unfold affine_Box.j1
      repeat' first
      | (with_reducible exact ih0 _ _ _ _ _ _ _ _ _ _)
      | (with_reducible exact ih1 _ _ _ _ _ _ _ _ _ _)
      | (with_reducible exact ih2 _ _ _ _ _ _ _ _ _ _)
      | (with_reducible exact ih3 _ _ _ _ _)
      | (with_reducible exact affine_Box_1.mono _ _ _ _ _ _ _ _ _)
      | (with_reducible exact LeO.refl _)
      | (with_reducible exact LeO.none _)
      | (with_reducible refine LeO.ite ?_ ?_)
      | (with_reducible refine LeO.bind ?_ (fun _ => ?_))
      | exact ih0 _ _ _ _ _ _ _ _ _ _
      | exact ih1 _ _ _ _ _ _ _ _ _ _
      | exact ih2 _ _ _ _ _ _ _ _ _ _
      | exact ih3 _ _ _ _ _
      | exact affine_Box_1.mono _ _ _ _ _ _ _ _ _
      | exact LeO.none _
      | refine LeO.ite ?_ ?_
      | refine LeO.bind ?_ (fun _ => ?_)
    · intro y0 y1 y2 y3 y4 y5 y6 y7 y8 y9
      unfold affine_Box.j2
      repeat' first
      | (with_reducible exact ih0 _ _ _ _ _ _ _ _ _ _)
      | (with_reducible exact ih1 _ _ _ _ _ _ _ _ _ _)
      | (with_reducible exact ih2 _ _ _ _ _ _ _ _ _ _)
      | (with_reducible exact ih3 _ _ _ _ _)
      | (with_reducible exact affine_Box_1.mono _ _ _ _ _ _ _ _ _)
      | (with_reducible exact LeO.refl _)
      | (with_reducible exact LeO.none _)
      | (with_reducible refine LeO.ite ?_ ?_)
      | (with_reducible refine LeO.bind ?_ (fun _ => ?_))
      | exact ih0 _ _ _ _ _ _ _ _ _ _
      | exact ih1 _ _ _ _ _ _ _ _ _ _
      | exact ih2 _ _ _ _ _ _ _ _ _ _
      | exact ih3 _ _ _ _ _
      | exact affine_Box_1.mono _ _ _ _ _ _ _ _ _
      | exact LeO.none _
      | refine LeO.ite ?_ ?_
      | refine LeO.bind ?_ (fun _ => ?_)
    · intro y0 y1 y2 y3 y4
      unfold affine_Box.j3
      repeat' first
      | (with_reducible exact ih0 _ _ _ _ _ _ _ _ _ _)
      | (with_reducible exact ih1 _ _ _ _ _ _ _ _ _ _)
      | (with_reducible exact ih2 _ _ _ _ _ _ _ _ _ _)
      | (with_reducible exact ih3 _ _ _ _ _)
      | (with_reducible exact affine_Box_1.mono _ _ _ _ _ _ _ _ _)
      | (with_reducible exact LeO.refl _)
      | (with_reducible exact LeO.none _)
      | (with_reducible refine LeO.ite ?_ ?_)
      | (with_reducible refine LeO.bind ?_ (fun _ => ?_))
      | exact ih0 _ _ _ _ _ _ _ _ _ _
      | exact ih1 _ _ _ _ _ _ _ _ _ _
      | exact ih2 _ _ _ _ _ _ _ _ _ _
      | exact ih3 _ _ _ _ _
      | exact affine_Box_1.mono _ _ _ _ _ _ _ _ _
      | exact LeO.none _
      | refine LeO.ite ?_ ?_
      | refine LeO.bind ?_ (fun _ => ?_)
theorem affine_Box.mono : ∀ a0 a1 a2 a3 a4 a5 a6 a7 a8 a9 k, LeO (affine_Box.f k a0 a1 a2 a3 a4 a5 a6 a7 a8 a9) (affine_Box.f (k + 1) a0 a1 a2 a3 a4 a5 a6 a7 a8 a9) := by
  intro a0 a1 a2 a3 a4 a5 a6 a7 a8 a9 k
  obtain ⟨ih0, ih1, ih2, ih3⟩ := affine_Box.mono_l k
  unfold affine_Box.f
  repeat' first
      | (with_reducible exact ih0 _ _ _ _ _ _ _ _ _ _)
      | (with_reducible exact ih1 _ _ _ _ _ _ _ _ _ _)
      | (with_reducible exact ih2 _ _ _ _ _ _ _ _ _ _)
      | (with_reducible exact ih3 _ _ _ _ _)
      | (with_reducible exact affine_Box_1.mono _ _ _ _ _ _ _ _ _)
      | (with_reducible exact LeO.refl _)
      | (with_reducible exact LeO.none _)
      | (with_reducible refine LeO.ite ?_ ?_)
      | (with_reducible refine LeO.bind ?_ (fun _ => ?_))
      | exact ih0 _ _ _ _ _ _ _ _ _ _
      | exact ih1 _ _ _ _ _ _ _ _ _ _
      | exact ih2 _ _ _ _ _ _ _ _ _ _
      | exact ih3 _ _ _ _ _
      | exact affine_Box_1.mono _ _ _ _ _ _ _ _ _
      | exact LeO.none _
      | refine LeO.ite ?_ ?_
      | refine LeO.bind ?_ (fun _ => ?_)
def affine_Box.T9 : Bool × List (List Nat × List Nat) := (true, [([], []), ([], []), ([1], [1]), ([], []), ([3], [3]), ([0, 2, 4], [0, 2, 4]), ([], []), ([], []), ([7], [7]), ([], []), ([9], [9]), ([8, 10], [8, 10]), ([], []), ([12], [12]), ([6, 11, 13, 5], [6, 11, 13]), ([], []), ([], []), ([16], [16]), ([], []), ([18], [18]), ([], []), ([20], [20]), ([19, 21], [19, 21]), ([15, 17, 22, 14], [15, 17, 22]), ([], []), ([], []), ([25], [25]), ([], []), ([27], [27]), ([26, 28], [26, 28]), ([], []), ([30], [30]), ([], []), ([32], [32]), ([31, 33], [31, 33]), ([24, 29, 34, 23], [24, 29, 34]), ([], []), ([], []), ([], []), ([], []), ([36, 5, 35, 0, 1, 2, 3, 4, 5, 36, 37, 38, 39], [5, 36]), ([37, 14, 40, 0, 1, 2, 3, 4, 5, 6, 7, 8, 9, 10, 11, 12, 13, 14, 36, 37, 38, 39, 40], [14, 37]), ([38, 23, 41, 0, 1, 2, 3, 4, 5, 6, 7, 8, 9, 10, 11, 12, 13, 14, 15, 16, 17, 18, 19, 20, 21, 22, 23, 36, 37, 38, 39, 40, 41], [23, 38]), ([39, 35, 42, 0, 1, 2, 3, 4, 5, 6, 7, 8, 9, 10, 11, 12, 13, 14, 15, 16, 17, 18, 19, 20, 21, 22, 23, 24, 25, 26, 27, 28, 29, 30, 31, 32, 33, 34, 35, 36, 37, 38, 39, 40, 41, 42], [35, 39])])
def affine_Box.B9 : List Nat := [0, 0, 2, 0, 8, 31, 0, 0, 128, 0, 512, 1920, 0, 4096, 16383, 0, 0, 65536, 0, 262144, 0, 1048576, 3932160, 8388607, 0, 0, 33554432, 0, 134217728, 503316480, 0, 1073741824, 0, 4294967296, 16106127360, 34359738367, 0, 0, 0, 0, 1099511627775, 2199023255551, 4398046511103, 8796093022207]
theorem affine_Box.tab9 : rtab .any (opsOf Try.f28 9) = affine_Box.T9 := by kernel_rfl
theorem affine_Box.bits9 : waitsOk affine_Box.T9.2 affine_Box.B9 = true := by kernel_rfl
def affine_Box.T12 : Bool × List (List Nat × List Nat) := (true, [([], []), ([], []), ([1], [1]), ([], []), ([3], [3]), ([], []), ([5], [5]), ([], []), ([7], [7]), ([2, 4, 6, 8], [2, 4, 6, 8]), ([0, 9], [0, 9]), ([], []), ([], []), ([12], [12]), ([], []), ([14], [14]), ([], []), ([16], [16]), ([], []), ([18], [18]), ([13, 15, 17, 19], [13, 15, 17, 19]), ([11, 20, 10], [11, 20]), ([10, 21, 0, 1, 2, 3, 4, 5, 6, 7, 8, 9, 10], [10]), ([21, 22, 0, 1, 2, 3, 4, 5, 6, 7, 8, 9, 10, 11, 12, 13, 14, 15, 16, 17, 18, 19, 20, 21, 22], [21])])
def affine_Box.B12 : List Nat := [0, 0, 2, 0, 8, 0, 32, 0, 128, 510, 1023, 0, 0, 4096, 0, 16384, 0, 65536, 0, 262144, 1044480, 2097151, 4194303, 8388607]
theorem affine_Box.tab12 : rtab .any (opsOf Try.f28 12) = affine_Box.T12 := by kernel_rfl
theorem affine_Box.bits12 : waitsOk affine_Box.T12.2 affine_Box.B12 = true := by kernel_rfl
def affine_Box.T13 : Bool × List (List Nat × List Nat) := (true, [([], []), ([], []), ([1], [1]), ([], []), ([3], [3]), ([], []), ([5], [5]), ([], []), ([7], [7]), ([2, 4, 6, 8], [2, 4, 6, 8]), ([0, 9], [0, 9]), ([], []), ([], []), ([12], [12]), ([], []), ([14], [14]), ([], []), ([16], [16]), ([], []), ([18], [18]), ([13, 15, 17, 19], [13, 15, 17, 19]), ([11, 20, 10], [11, 20]), ([10, 21, 0, 1, 2, 3, 4, 5, 6, 7, 8, 9, 10], [10]), ([21, 22, 0, 1, 2, 3, 4, 5, 6, 7, 8, 9, 10, 11, 12, 13, 14, 15, 16, 17, 18, 19, 20, 21, 22], [21])])
def affine_Box.B13 : List Nat := [0, 0, 2, 0, 8, 0, 32, 0, 128, 510, 1023, 0, 0, 4096, 0, 16384, 0, 65536, 0, 262144, 1044480, 2097151, 4194303, 8388607]
theorem affine_Box.tab13 : rtab .any (opsOf Try.f28 13) = affine_Box.T13 := by kernel_rfl
theorem affine_Box.bits13 : waitsOk affine_Box.T13.2 affine_Box.B13 = true := by kernel_rfl
set_option maxHeartbeats 8000000 in
set_option maxRecDepth 100000 in
theorem affine_Box.calls (k : Nat) (a0_0 : Int) (a0_1 : Int) (a0_2 : Int) (a0_3 : Int) (a0_4 : Int) (a0_5 : Int) (a1_0 : Int) (a1_1 : Int) (a1_2 : Int) (a1_3 : Int) (r1 : Int) (r2 : Int) (r3 : Int) (r4 : Int) (r5 : Int) (w : World) (h : affine_Box.f k a0_0 a0_1 a0_2 a0_3 a0_4 a0_5 a1_0 a1_1 a1_2 a1_3 = some (r1, r2, r3, r4, r5)) :
    Calls Try.prog 28 #[.agg #[.int .i64 a0_0, .int .i64 a0_1, .int .i64 a0_2, .int .i64 a0_3, .int .i64 a0_4, .int .i64 a0_5], .agg #[.int .i64 a1_0, .int .i64 a1_1, .int .i64 a1_2, .int .i64 a1_3]] w fun e w' => e = .returned (.tuple #[.agg #[.int .i64 r1, .int .i64 r2, .int .i64 r3, .int .i64 r4], .int .i64 r5]) ∧ Below w.heap.size w w' := by
  have hu23 := Try.underlying23
  have hu44 := Try.underlying44
  have hu25 := Try.underlying25
  have HB := Aside0.mk (Below.refl w.heap.size w)
  have H : ((affine_Check.f a0_0 a0_1 a0_2 a0_3 a0_4 a0_5).bind fun t257 => (if t257 = 0 then (affine_Box.j0 k a0_0 a0_1 a0_2 a0_3 a0_4 a0_5 a1_0 a1_1 a1_2 a1_3) else (some (0, 0, 0, 0, t257)))) = some (r1, r2, r3, r4, r5) := h
  clear h
  replace H := Option.bind_eq_some_iff.mp H
  obtain ⟨t257, A30, H⟩ := H
  replace H : (if t257 = 0 then (affine_Box.j0 k a0_0 a0_1 a0_2 a0_3 a0_4 a0_5 a1_0 a1_1 a1_2 a1_3) else (some (0, 0, 0, 0, t257))) = some (r1, r2, r3, r4, r5) := H
  have A3 := Aside0.mk A30
  clear A30
  have HC4 := Aside0.mk H
  clear H
  go_enter Try.func28, Try.ntmps28
  go_upto_if 21 with (first | ((with_reducible refine gate_dst (N := 2) rfl ?_); refine box_event ?hg (N := 2) ?hd (cs := #[.int .i64 a0_0, .int .i64 a0_1, .int .i64 a0_2, .int .i64 a0_3, .int .i64 a0_4, .int .i64 a0_5]) (t := 23) ?hr ?_; (case hd => rfl); (case hg => rfl); (case hr => first | (go_simp; done) | (go_simp; rfl)); intro gb254 hg w5 hbox hb; have n0_ := Aside0.mk (below_step (by repeat (first | (with_reducible first | exact HB.out | apply lA_ | apply lN_ | apply lD_) | exact HB.out)) hb); have n1_ := Aside0.mk (hbox); have n2_ := Aside0.mk ((by rw [hg]; exact (below_size (by repeat (first | (with_reducible first | exact HB.out | apply lA_ | apply lN_ | apply lD_) | exact HB.out))) : w.heap.size ≤ gb254)); have n3_ := Aside0.mk ((by rw [hg]; exact (below_size (by repeat (first | (with_reducible first | exact HB.out | apply lA_ | apply lN_ | apply lD_) | exact HB.out))) : w.heap.size ≤ gb254)); clear HB; have HB := n0_; have BK254 := n1_; have GW254 := n2_; have GE254 := n3_; clear n0_ n1_ n2_ n3_; clear hb hbox hg) | ((with_reducible refine gate_dst (N := 3) rfl ?_); refine box_event ?hg (N := 3) ?hd (cs := #[.int .i64 a1_0, .int .i64 a1_1, .int .i64 a1_2, .int .i64 a1_3]) (t := 44) ?hr ?_; (case hd => rfl); (case hg => rfl); (case hr => first | (go_simp; done) | (go_simp; rfl)); intro gb255 hg w6 hbox hb; have n0_ := Aside0.mk (blk_below (g := gb254) (o := .cells #[.int .i64 a0_0, .int .i64 a0_1, .int .i64 a0_2, .int .i64 a0_3, .int .i64 a0_4, .int .i64 a0_5] 23 (0, 0)) (by (with_reducible repeat (first | refine bN_ ?_ _ | refine bD_ ?_ | refine bA_ ?_ _)); exact BK254.out) hb); have n1_ := Aside0.mk (below_step (by repeat (first | (with_reducible first | exact HB.out | apply lA_ | apply lN_ | apply lD_ | refine lS_ ?_ GE254.out) | exact HB.out)) hb); have n2_ := Aside0.mk (hbox); have n3_ := Aside0.mk ((by rw [hg]; exact (below_size (by repeat (first | (with_reducible first | exact HB.out | apply lA_ | apply lN_ | apply lD_ | refine lS_ ?_ GE254.out) | exact HB.out))) : w.heap.size ≤ gb255)); have n4_ := Aside0.mk ((by rw [hg]; exact (below_size (by repeat (first | (with_reducible first | exact HB.out | apply lA_ | apply lN_ | apply lD_ | refine lS_ ?_ GE254.out) | exact HB.out))) : w.heap.size ≤ gb255)); have n5_ := Aside0.mk ((by rw [hg]; exact Nat.ne_of_lt (blk_lt (g := gb254) (o := .cells #[.int .i64 a0_0, .int .i64 a0_1, .int .i64 a0_2, .int .i64 a0_3, .int .i64 a0_4, .int .i64 a0_5] 23 (0, 0)) (by (with_reducible repeat (first | refine bN_ ?_ _ | refine bD_ ?_ | refine bA_ ?_ _)); exact BK254.out)) : gb254 ≠ gb255)); have n6_ := Aside0.mk ((by rw [hg]; exact Nat.ne_of_gt (blk_lt (g := gb254) (o := .cells #[.int .i64 a0_0, .int .i64 a0_1, .int .i64 a0_2, .int .i64 a0_3, .int .i64 a0_4, .int .i64 a0_5] 23 (0, 0)) (by (with_reducible repeat (first | refine bN_ ?_ _ | refine bD_ ?_ | refine bA_ ?_ _)); exact BK254.out)) : gb255 ≠ gb254)); clear BK254; clear HB; have BK254 := n0_; have HB := n1_; have BK255 := n2_; have GW255 := n3_; have GE255 := n4_; have NB254_255 := n5_; have NB255_254 := n6_; clear n0_ n1_ n2_ n3_ n4_ n5_ n6_; clear hb hbox hg) | ((with_reducible refine gate_dst (N := 4) rfl ?_); refine box_event ?hg (N := 4) ?hd (cs := #[.int .i64 0, .int .i64 0, .int .i64 0, .int .i64 0]) (t := 44) ?hr ?_; (case hd => rfl); (case hg => rfl); (case hr => first | (go_simp; done) | (go_simp; rfl)); intro gb256 hg w7 hbox hb; have n0_ := Aside0.mk (blk_below (g := gb254) (o := .cells #[.int .i64 a0_0, .int .i64 a0_1, .int .i64 a0_2, .int .i64 a0_3, .int .i64 a0_4, .int .i64 a0_5] 23 (0, 0)) (by (with_reducible repeat (first | refine bN_ ?_ _ | refine bD_ ?_ | refine bA_ ?_ _)); exact BK254.out) hb); have n1_ := Aside0.mk (blk_below (g := gb255) (o := .cells #[.int .i64 a1_0, .int .i64 a1_1, .int .i64 a1_2, .int .i64 a1_3] 44 (0, 0)) (by (with_reducible repeat (first | refine bN_ ?_ _ | refine bD_ ?_ | refine bA_ ?_ _)); exact BK255.out) hb); have n2_ := Aside0.mk (below_step (by repeat (first | (with_reducible first | exact HB.out | apply lA_ | apply lN_ | apply lD_ | refine lS_ ?_ GE254.out | refine lS_ ?_ GE255.out) | exact HB.out)) hb); have n3_ := Aside0.mk (hbox); have n4_ := Aside0.mk ((by rw [hg]; exact (below_size (by repeat (first | (with_reducible first | exact HB.out | apply lA_ | apply lN_ | apply lD_ | refine lS_ ?_ GE254.out | refine lS_ ?_ GE255.out) | exact HB.out))) : w.heap.size ≤ gb256)); have n5_ := Aside0.mk ((by rw [hg]; exact (below_size (by repeat (first | (with_reducible first | exact HB.out | apply lA_ | apply lN_ | apply lD_ | refine lS_ ?_ GE254.out | refine lS_ ?_ GE255.out) | exact HB.out))) : w.heap.size ≤ gb256)); have n6_ := Aside0.mk ((by rw [hg]; exact Nat.ne_of_lt (blk_lt (g := gb254) (o := .cells #[.int .i64 a0_0, .int .i64 a0_1, .int .i64 a0_2, .int .i64 a0_3, .int .i64 a0_4, .int .i64 a0_5] 23 (0, 0)) (by (with_reducible repeat (first | refine bN_ ?_ _ | refine bD_ ?_ | refine bA_ ?_ _)); exact BK254.out)) : gb254 ≠ gb256)); have n7_ := Aside0.mk ((by rw [hg]; exact Nat.ne_of_gt (blk_lt (g := gb254) (o := .cells #[.int .i64 a0_0, .int .i64 a0_1, .int .i64 a0_2, .int .i64 a0_3, .int .i64 a0_4, .int .i64 a0_5] 23 (0, 0)) (by (with_reducible repeat (first | refine bN_ ?_ _ | refine bD_ ?_ | refine bA_ ?_ _)); exact BK254.out)) : gb256 ≠ gb254)); have n8_ := Aside0.mk ((by rw [hg]; exact Nat.ne_of_lt (blk_lt (g := gb255) (o := .cells #[.int .i64 a1_0, .int .i64 a1_1, .int .i64 a1_2, .int .i64 a1_3] 44 (0, 0)) (by (with_reducible repeat (first | refine bN_ ?_ _ | refine bD_ ?_ | refine bA_ ?_ _)); exact BK255.out)) : gb255 ≠ gb256)); have n9_ := Aside0.mk ((by rw [hg]; exact Nat.ne_of_gt (blk_lt (g := gb255) (o := .cells #[.int .i64 a1_0, .int .i64 a1_1, .int .i64 a1_2, .int .i64 a1_3] 44 (0, 0)) (by (with_reducible repeat (first | refine bN_ ?_ _ | refine bD_ ?_ | refine bA_ ?_ _)); exact BK255.out)) : gb256 ≠ gb255)); clear BK254; clear BK255; clear HB; have BK254 := n0_; have BK255 := n1_; have HB := n2_; have BK256 := n3_; have GW256 := n4_; have GE256 := n5_; have NB254_256 := n6_; have NB256_254 := n7_; have NB255_256 := n8_; have NB256_255 := n9_; clear n0_ n1_ n2_ n3_ n4_ n5_ n6_ n7_ n8_ n9_; clear hb hbox hg; have hnb8 := NB254_255.out; have hnc8 := NB255_254.out; have hnb9 := NB254_256.out; have hnc9 := NB256_254.out; have hcz10_0 : w7.cell? ⟨gb254, 0, none⟩ = some (.int .i64 a0_0) := (blk_cell BK254.out 0).trans rfl; have hcz10_1 : w7.cell? ⟨gb254, 1, none⟩ = some (.int .i64 a0_1) := (blk_cell BK254.out 1).trans rfl; have hcz10_2 : w7.cell? ⟨gb254, 2, none⟩ = some (.int .i64 a0_2) := (blk_cell BK254.out 2).trans rfl; have hcz10_3 : w7.cell? ⟨gb254, 3, none⟩ = some (.int .i64 a0_3) := (blk_cell BK254.out 3).trans rfl; have hcz10_4 : w7.cell? ⟨gb254, 4, none⟩ = some (.int .i64 a0_4) := (blk_cell BK254.out 4).trans rfl; have hcz10_5 : w7.cell? ⟨gb254, 5, none⟩ = some (.int .i64 a0_5) := (blk_cell BK254.out 5).trans rfl; have hfz10_0 := blk_frozen BK254.out 0; have hfz10_1 := blk_frozen BK254.out 1; have hfz10_2 := blk_frozen BK254.out 2; have hfz10_3 := blk_frozen BK254.out 3; have hfz10_4 := blk_frozen BK254.out 4; have hfz10_5 := blk_frozen BK254.out 5) | ((with_reducible refine gate_callee (f := 10) rfl ?_); refine goesL_ (some 19) rfl rfl Try.func10 (by kernel_rfl) rfl #[.agg #[.int .i64 a0_0, .int .i64 a0_1, .int .i64 a0_2, .int .i64 a0_3, .int .i64 a0_4, .int .i64 a0_5]] rfl (by (try simp only [List.map_toArray, List.map_cons, List.map_nil]); first | done | rfl | (simp only [List.length_drop, List.length_take]; rfl)) ?_; (with_reducible refine (affine_Check.calls a0_0 a0_1 a0_2 a0_3 a0_4 a0_5 t257 _ A3.out).mono ?_); rintro e w11 ⟨rfl, hb⟩; refine ⟨_, rfl, ?_⟩; have n0_ := Aside0.mk (blk_below (g := gb254) (o := .cells #[.int .i64 a0_0, .int .i64 a0_1, .int .i64 a0_2, .int .i64 a0_3, .int .i64 a0_4, .int .i64 a0_5] 23 (0, 0)) (by (with_reducible repeat (first | refine bN_ ?_ _ | refine bD_ ?_ | refine bA_ ?_ _)); exact BK254.out) hb); have n1_ := Aside0.mk (blk_below (g := gb255) (o := .cells #[.int .i64 a1_0, .int .i64 a1_1, .int .i64 a1_2, .int .i64 a1_3] 44 (0, 0)) (by (with_reducible repeat (first | refine bN_ ?_ _ | refine bD_ ?_ | refine bA_ ?_ _)); exact BK255.out) hb); have n2_ := Aside0.mk (blk_below (g := gb256) (o := .cells #[.int .i64 0, .int .i64 0, .int .i64 0, .int .i64 0] 44 (0, 0)) (by (with_reducible repeat (first | refine bN_ ?_ _ | refine bD_ ?_ | refine bA_ ?_ _)); exact BK256.out) hb); have n3_ := Aside0.mk (below_step (by repeat (first | (with_reducible first | exact HB.out | apply lA_ | apply lN_ | apply lD_ | refine lS_ ?_ GE254.out | refine lS_ ?_ GE255.out | refine lS_ ?_ GE256.out) | exact HB.out)) hb); clear BK254; clear BK255; clear BK256; clear HB; have BK254 := n0_; have BK255 := n1_; have BK256 := n2_; have HB := n3_; clear n0_ n1_ n2_ n3_; (try clear hb); (try clear hb2); (try clear hk); (try clear hi)))
  (try simp only [Act.put, tS_, tZ_, tC_])
  go_cut [] (fun wc => ∃ (kq : Nat) (x257000_3 : Int) (x257001_3 : Int) (x257002_3 : Int) (x257003_3 : Int), Aside0 (affine_Box.j0 kq a0_0 a0_1 a0_2 a0_3 a0_4 a0_5 a1_0 a1_1 a1_2 a1_3 = some (r1, r2, r3, r4, r5)) ∧ Aside0 (kq ≤ k) ∧ Aside0 (wc.heap[gb254]? = some (.cells #[.int .i64 a0_0, .int .i64 a0_1, .int .i64 a0_2, .int .i64 a0_3, .int .i64 a0_4, .int .i64 a0_5] 23 (0, 0))) ∧ Aside0 (wc.heap[gb255]? = some (.cells #[.int .i64 a1_0, .int .i64 a1_1, .int .i64 a1_2, .int .i64 a1_3] 44 (0, 0))) ∧ Aside0 (wc.heap[gb256]? = some (.cells #[.int .i64 x257000_3, .int .i64 x257001_3, .int .i64 x257002_3, .int .i64 x257003_3] 44 (0, 0))) ∧ Aside0 (Below w.heap.size w wc))
  case first =>
    have H := HC4.out
    clear HC4
    by_cases c12 : t257 = 0
    · rw [if_pos c12] at H
      have c12b0 : (t257 == 0) = true := beq_iff_eq.mpr c12
      have c12b1 : (t257 != 0) = false := bne_eq_false_iff_eq.mpr c12
      clear c12
      (first | rw [c12b0] | (simp only [i64_w, i32_w]; rw [c12b0]) | skip)
      have H' := Aside0.mk H
      clear H
      go_wp2
      go_meet
      case rel => exact ⟨_, (0), (0), (0), (0), H', ⟨by first | omega | exact Nat.le_refl _⟩, ⟨by (with_reducible repeat (first | refine bN_ ?_ _ | refine bD_ ?_ | refine bA_ ?_ _)); exact BK254.out⟩, ⟨by (with_reducible repeat (first | refine bN_ ?_ _ | refine bD_ ?_ | refine bA_ ?_ _)); exact BK255.out⟩, ⟨by (with_reducible repeat (first | refine bN_ ?_ _ | refine bD_ ?_ | refine bA_ ?_ _)); exact BK256.out⟩, ⟨by repeat (first | (with_reducible first | exact HB.out | apply lA_ | apply lN_ | apply lD_ | refine lS_ ?_ GE254.out | refine lS_ ?_ GE255.out | refine lS_ ?_ GE256.out) | exact HB.out)⟩⟩
    · rw [if_neg c12] at H
      have c12b0 : (t257 == 0) = false := beq_eq_false_iff_ne.mpr c12
      have c12b1 : (t257 != 0) = true := bne_iff_ne.mpr c12
      (first | rw [c12b0] | (simp only [i64_w, i32_w]; rw [c12b0]) | skip)
      simp only [Option.some.injEq, Prod.mk.injEq] at H
      obtain ⟨rfl, rfl, rfl, rfl, rfl⟩ := H
      have hnb13 := NB256_254.out
      have hnc13 := NB254_256.out
      have hnb14 := NB256_255.out
      have hnc14 := NB255_256.out
      have hcz15_0 : w11.cell? ⟨gb256, 0, none⟩ = some (.int .i64 0) := (blk_cell BK256.out 0).trans rfl
      have hcz15_1 : w11.cell? ⟨gb256, 1, none⟩ = some (.int .i64 0) := (blk_cell BK256.out 1).trans rfl
      have hcz15_2 : w11.cell? ⟨gb256, 2, none⟩ = some (.int .i64 0) := (blk_cell BK256.out 2).trans rfl
      have hcz15_3 : w11.cell? ⟨gb256, 3, none⟩ = some (.int .i64 0) := (blk_cell BK256.out 3).trans rfl
      have hfz15_0 := blk_frozen BK256.out 0
      have hfz15_1 := blk_frozen BK256.out 1
      have hfz15_2 := blk_frozen BK256.out 2
      have hfz15_3 := blk_frozen BK256.out 3
      go_wp2
      refine bodyPost_ret (results_ct rfl _ _ gb256 44 #[.int .i64 0, .int .i64 0, .int .i64 0, .int .i64 0] (0, 0) _ rfl (by (with_reducible repeat (first | refine bN_ ?_ _ | refine bD_ ?_ | refine bA_ ?_ _)); refine blk_put (cs := #[.int .i64 0, .int .i64 0, .int .i64 0, .int .i64 0]) ?_ 3 _ rfl; (with_reducible repeat (first | refine bN_ ?_ _ | refine bD_ ?_ | refine bA_ ?_ _)); refine blk_put (cs := #[.int .i64 0, .int .i64 0, .int .i64 0, .int .i64 0]) ?_ 2 _ rfl; (with_reducible repeat (first | refine bN_ ?_ _ | refine bD_ ?_ | refine bA_ ?_ _)); refine blk_put (cs := #[.int .i64 0, .int .i64 0, .int .i64 0, .int .i64 0]) ?_ 1 _ rfl; (with_reducible repeat (first | refine bN_ ?_ _ | refine bD_ ?_ | refine bA_ ?_ _)); refine blk_put (cs := #[.int .i64 0, .int .i64 0, .int .i64 0, .int .i64 0]) ?_ 0 _ rfl; (with_reducible repeat (first | refine bN_ ?_ _ | refine bD_ ?_ | refine bA_ ?_ _)); exact BK256.out) Try.underlying44 rfl (by kernel_rfl)) rfl ?_
      exact ⟨by first | rfl | (simp [errW_none, errW_some] <;> rfl) | (simp [*, errW_none, errW_some] <;> rfl), by repeat (first | (with_reducible first | exact HB.out | apply lA_ | apply lN_ | apply lD_ | refine lS_ ?_ GE254.out | refine lS_ ?_ GE255.out | refine lS_ ?_ GE256.out) | exact HB.out)⟩
  clear HC4
  try clear c1
  try clear c2
  try clear p2
  try clear c8
  try clear c9
  try clear c10
  try clear c12
  try clear c12b0
  try clear c12b1
  try clear c13
  try clear c14
  try clear hcz10_0
  try clear hcz10_1
  try clear hcz10_2
  try clear hcz10_3
  try clear hcz10_4
  try clear hcz10_5
  try clear hcz15_0
  try clear hcz15_1
  try clear hcz15_2
  try clear hcz15_3
  try clear hfz10_0
  try clear hfz10_1
  try clear hfz10_2
  try clear hfz10_3
  try clear hfz10_4
  try clear hfz10_5
  try clear hfz15_0
  try clear hfz15_1
  try clear hfz15_2
  try clear hfz15_3
  obtain ⟨kq, x257000_3, x257001_3, x257002_3, x257003_3, HA, HJ3, BK254, BK255, BK256, HB⟩ := hcut
  cases kq with
  | zero => exact absurd HA.out (by simp [affine_Box.j0])
  | succ kj3 =>
    have H := HA.out
    clear HA
    simp only [affine_Box.j0] at H
    replace H := Option.bind_eq_some_iff.mp H
    obtain ⟨t258, A160, H⟩ := H
    replace H : (if t258 = true then (affine_Box.j1 kj3 a0_0 a0_1 a0_2 a0_3 a0_4 a0_5 a1_0 a1_1 a1_2 a1_3) else (some (0, 0, 0, 0, 2))) = some (r1, r2, r3, r4, r5) := H
    have A16 := Aside0.mk A160
    clear A160
    have HC17 := Aside0.mk H
    clear H
    have hnb18 := NB255_254.out
    have hnc18 := NB254_255.out
    have hnb19 := NB255_256.out
    have hnc19 := NB256_255.out
    have hcz20_0 : wc.cell? ⟨gb255, 0, none⟩ = some (.int .i64 a1_0) := (blk_cell BK255.out 0).trans rfl
    have hcz20_1 : wc.cell? ⟨gb255, 1, none⟩ = some (.int .i64 a1_1) := (blk_cell BK255.out 1).trans rfl
    have hcz20_2 : wc.cell? ⟨gb255, 2, none⟩ = some (.int .i64 a1_2) := (blk_cell BK255.out 2).trans rfl
    have hcz20_3 : wc.cell? ⟨gb255, 3, none⟩ = some (.int .i64 a1_3) := (blk_cell BK255.out 3).trans rfl
    have hfz20_0 := blk_frozen BK255.out 0
    have hfz20_1 := blk_frozen BK255.out 1
    have hfz20_2 := blk_frozen BK255.out 2
    have hfz20_3 := blk_frozen BK255.out 3
    go_upto_if 26 with (first | ((with_reducible refine gate_callee (f := 44) rfl ?_); refine goesL_ (some 25) rfl rfl Try.func44 (by kernel_rfl) rfl #[.agg #[.int .i64 a1_0, .int .i64 a1_1, .int .i64 a1_2, .int .i64 a1_3]] rfl (by (try simp only [List.map_toArray, List.map_cons, List.map_nil]); first | done | rfl | (simp only [List.length_drop, List.length_take]; rfl)) ?_; (with_reducible refine (rect_Valid.calls a1_0 a1_1 a1_2 a1_3 t258 _ A16.out).mono ?_); rintro e w21 ⟨rfl, hb⟩; refine ⟨_, rfl, ?_⟩; have n0_ := Aside0.mk (blk_below (g := gb254) (o := .cells #[.int .i64 a0_0, .int .i64 a0_1, .int .i64 a0_2, .int .i64 a0_3, .int .i64 a0_4, .int .i64 a0_5] 23 (0, 0)) (by (with_reducible repeat (first | refine bN_ ?_ _ | refine bD_ ?_ | refine bA_ ?_ _)); exact BK254.out) hb); have n1_ := Aside0.mk (blk_below (g := gb255) (o := .cells #[.int .i64 a1_0, .int .i64 a1_1, .int .i64 a1_2, .int .i64 a1_3] 44 (0, 0)) (by (with_reducible repeat (first | refine bN_ ?_ _ | refine bD_ ?_ | refine bA_ ?_ _)); exact BK255.out) hb); have n2_ := Aside0.mk (blk_below (g := gb256) (o := .cells #[.int .i64 x257000_3, .int .i64 x257001_3, .int .i64 x257002_3, .int .i64 x257003_3] 44 (0, 0)) (by (with_reducible repeat (first | refine bN_ ?_ _ | refine bD_ ?_ | refine bA_ ?_ _)); exact BK256.out) hb); have n3_ := Aside0.mk (below_step (by repeat (first | (with_reducible first | exact HB.out | apply lA_ | apply lN_ | apply lD_ | refine lS_ ?_ GE254.out | refine lS_ ?_ GE255.out | refine lS_ ?_ GE256.out) | exact HB.out)) hb); clear BK254; clear BK255; clear BK256; clear HB; have BK254 := n0_; have BK255 := n1_; have BK256 := n2_; have HB := n3_; clear n0_ n1_ n2_ n3_; (try clear hb); (try clear hb2); (try clear hk); (try clear hi)))
    (try simp only [Act.put, tS_, tZ_, tC_])
    go_cut [] (fun wc => ∃ (kq : Nat) (x257000_16 : Int) (x257001_16 : Int) (x257002_16 : Int) (x257003_16 : Int), Aside0 (affine_Box.j1 kq a0_0 a0_1 a0_2 a0_3 a0_4 a0_5 a1_0 a1_1 a1_2 a1_3 = some (r1, r2, r3, r4, r5)) ∧ Aside0 (kq ≤ kj3) ∧ Aside0 (wc.heap[gb254]? = some (.cells #[.int .i64 a0_0, .int .i64 a0_1, .int .i64 a0_2, .int .i64 a0_3, .int .i64 a0_4, .int .i64 a0_5] 23 (0, 0))) ∧ Aside0 (wc.heap[gb255]? = some (.cells #[.int .i64 a1_0, .int .i64 a1_1, .int .i64 a1_2, .int .i64 a1_3] 44 (0, 0))) ∧ Aside0 (wc.heap[gb256]? = some (.cells #[.int .i64 x257000_16, .int .i64 x257001_16, .int .i64 x257002_16, .int .i64 x257003_16] 44 (0, 0))) ∧ Aside0 (Below w.heap.size w wc))
    case first =>
      have H := HC17.out
      clear HC17
      by_cases c22 : t258 = true
      · subst c22
        have H1 : (affine_Box.j1 kj3 a0_0 a0_1 a0_2 a0_3 a0_4 a0_5 a1_0 a1_1 a1_2 a1_3) = some (r1, r2, r3, r4, r5) := by rw [if_pos rfl] at H; exact H
        clear H
        have H := H1
        clear H1
        have H' := Aside0.mk H
        clear H
        go_wp2
        go_meet
        case rel => exact ⟨_, (x257000_3), (x257001_3), (x257002_3), (x257003_3), H', ⟨by have := HJ3.out; first | omega | exact Nat.le_refl _⟩, ⟨by (with_reducible repeat (first | refine bN_ ?_ _ | refine bD_ ?_ | refine bA_ ?_ _)); exact BK254.out⟩, ⟨by (with_reducible repeat (first | refine bN_ ?_ _ | refine bD_ ?_ | refine bA_ ?_ _)); exact BK255.out⟩, ⟨by (with_reducible repeat (first | refine bN_ ?_ _ | refine bD_ ?_ | refine bA_ ?_ _)); exact BK256.out⟩, ⟨by repeat (first | (with_reducible first | exact HB.out | apply lA_ | apply lN_ | apply lD_ | refine lS_ ?_ GE254.out | refine lS_ ?_ GE255.out | refine lS_ ?_ GE256.out) | exact HB.out)⟩⟩
      · replace c22 := Bool.eq_false_iff.mpr c22
        subst c22
        have H1 : (some (0, 0, 0, 0, 2)) = some (r1, r2, r3, r4, r5) := by rw [if_neg (show ¬ (false = true) by decide)] at H; exact H
        clear H
        have H := H1
        clear H1
        simp only [Option.some.injEq, Prod.mk.injEq] at H
        obtain ⟨rfl, rfl, rfl, rfl, rfl⟩ := H
        have hnb23 := NB256_254.out
        have hnc23 := NB254_256.out
        have hnb24 := NB256_255.out
        have hnc24 := NB255_256.out
        have hcz25_0 : w21.cell? ⟨gb256, 0, none⟩ = some (.int .i64 x257000_3) := (blk_cell BK256.out 0).trans rfl
        have hcz25_1 : w21.cell? ⟨gb256, 1, none⟩ = some (.int .i64 x257001_3) := (blk_cell BK256.out 1).trans rfl
        have hcz25_2 : w21.cell? ⟨gb256, 2, none⟩ = some (.int .i64 x257002_3) := (blk_cell BK256.out 2).trans rfl
        have hcz25_3 : w21.cell? ⟨gb256, 3, none⟩ = some (.int .i64 x257003_3) := (blk_cell BK256.out 3).trans rfl
        have hfz25_0 := blk_frozen BK256.out 0
        have hfz25_1 := blk_frozen BK256.out 1
        have hfz25_2 := blk_frozen BK256.out 2
        have hfz25_3 := blk_frozen BK256.out 3
        go_wp2
        refine bodyPost_ret (results_ct rfl _ _ gb256 44 #[.int .i64 0, .int .i64 0, .int .i64 0, .int .i64 0] (0, 0) _ rfl (by (with_reducible repeat (first | refine bN_ ?_ _ | refine bD_ ?_ | refine bA_ ?_ _)); refine blk_put (cs := #[.int .i64 0, .int .i64 0, .int .i64 0, .int .i64 x257003_3]) ?_ 3 _ rfl; (with_reducible repeat (first | refine bN_ ?_ _ | refine bD_ ?_ | refine bA_ ?_ _)); refine blk_put (cs := #[.int .i64 0, .int .i64 0, .int .i64 x257002_3, .int .i64 x257003_3]) ?_ 2 _ rfl; (with_reducible repeat (first | refine bN_ ?_ _ | refine bD_ ?_ | refine bA_ ?_ _)); refine blk_put (cs := #[.int .i64 0, .int .i64 x257001_3, .int .i64 x257002_3, .int .i64 x257003_3]) ?_ 1 _ rfl; (with_reducible repeat (first | refine bN_ ?_ _ | refine bD_ ?_ | refine bA_ ?_ _)); refine blk_put (cs := #[.int .i64 x257000_3, .int .i64 x257001_3, .int .i64 x257002_3, .int .i64 x257003_3]) ?_ 0 _ rfl; (with_reducible repeat (first | refine bN_ ?_ _ | refine bD_ ?_ | refine bA_ ?_ _)); exact BK256.out) Try.underlying44 rfl (by kernel_rfl)) rfl ?_
        exact ⟨by first | rfl | (simp [errW_none, errW_some] <;> rfl) | (simp [*, errW_none, errW_some] <;> rfl), by repeat (first | (with_reducible first | exact HB.out | apply lA_ | apply lN_ | apply lD_ | refine lS_ ?_ GE254.out | refine lS_ ?_ GE255.out | refine lS_ ?_ GE256.out) | exact HB.out)⟩
    clear HC17
    try clear c1
    try clear c2
    try clear p2
    try clear c4
    try clear c8
    try clear c9
    try clear c10
    try clear c12
    try clear c12b0
    try clear c12b1
    try clear c13
    try clear c14
    try clear c18
    try clear c19
    try clear c22
    try clear c23
    try clear c24
    try clear hcz10_0
    try clear hcz10_1
    try clear hcz10_2
    try clear hcz10_3
    try clear hcz10_4
    try clear hcz10_5
    try clear hcz15_0
    try clear hcz15_1
    try clear hcz15_2
    try clear hcz15_3
    try clear hcz20_0
    try clear hcz20_1
    try clear hcz20_2
    try clear hcz20_3
    try clear hcz25_0
    try clear hcz25_1
    try clear hcz25_2
    try clear hcz25_3
    try clear hfz10_0
    try clear hfz10_1
    try clear hfz10_2
    try clear hfz10_3
    try clear hfz10_4
    try clear hfz10_5
    try clear hfz15_0
    try clear hfz15_1
    try clear hfz15_2
    try clear hfz15_3
    try clear hfz20_0
    try clear hfz20_1
    try clear hfz20_2
    try clear hfz20_3
    try clear hfz25_0
    try clear hfz25_1
    try clear hfz25_2
    try clear hfz25_3
    try clear p2
    obtain ⟨kq, x257000_16, x257001_16, x257002_16, x257003_16, HA, HJ16, BK254, BK255, BK256, HB⟩ := hcut
    cases kq with
    | zero => exact absurd HA.out (by simp [affine_Box.j1])
    | succ kj16 =>
      have H := HA.out
      clear HA
      simp only [affine_Box.j1] at H
      replace H := Option.bind_eq_some_iff.mp H
      obtain ⟨t259, A260, H⟩ := H
      replace H : (if t259 = true then (some (0, 0, 0, 0, 0)) else (affine_Box.j2 kj16 a0_0 a0_1 a0_2 a0_3 a0_4 a0_5 a1_0 a1_1 a1_2 a1_3)) = some (r1, r2, r3, r4, r5) := H
      have A26 := Aside0.mk A260
      clear A260
      have HC27 := Aside0.mk H
      clear H
      have hnb28 := NB255_254.out
      have hnc28 := NB254_255.out
      have hnb29 := NB255_256.out
      have hnc29 := NB256_255.out
      have hcz30_0 : wc.cell? ⟨gb255, 0, none⟩ = some (.int .i64 a1_0) := (blk_cell BK255.out 0).trans rfl
      have hcz30_1 : wc.cell? ⟨gb255, 1, none⟩ = some (.int .i64 a1_1) := (blk_cell BK255.out 1).trans rfl
      have hcz30_2 : wc.cell? ⟨gb255, 2, none⟩ = some (.int .i64 a1_2) := (blk_cell BK255.out 2).trans rfl
      have hcz30_3 : wc.cell? ⟨gb255, 3, none⟩ = some (.int .i64 a1_3) := (blk_cell BK255.out 3).trans rfl
      have hfz30_0 := blk_frozen BK255.out 0
      have hfz30_1 := blk_frozen BK255.out 1
      have hfz30_2 := blk_frozen BK255.out 2
      have hfz30_3 := blk_frozen BK255.out 3
      go_upto_if 29 with (first | ((with_reducible refine gate_callee (f := 45) rfl ?_); refine goesL_ (some 29) rfl rfl Try.func45 (by kernel_rfl) rfl #[.agg #[.int .i64 a1_0, .int .i64 a1_1, .int .i64 a1_2, .int .i64 a1_3]] rfl (by (try simp only [List.map_toArray, List.map_cons, List.map_nil]); first | done | rfl | (simp only [List.length_drop, List.length_take]; rfl)) ?_; (with_reducible refine (rect_Empty.calls a1_0 a1_1 a1_2 a1_3 t259 _ A26.out).mono ?_); rintro e w31 ⟨rfl, hb⟩; refine ⟨_, rfl, ?_⟩; have n0_ := Aside0.mk (blk_below (g := gb254) (o := .cells #[.int .i64 a0_0, .int .i64 a0_1, .int .i64 a0_2, .int .i64 a0_3, .int .i64 a0_4, .int .i64 a0_5] 23 (0, 0)) (by (with_reducible repeat (first | refine bN_ ?_ _ | refine bD_ ?_ | refine bA_ ?_ _)); exact BK254.out) hb); have n1_ := Aside0.mk (blk_below (g := gb255) (o := .cells #[.int .i64 a1_0, .int .i64 a1_1, .int .i64 a1_2, .int .i64 a1_3] 44 (0, 0)) (by (with_reducible repeat (first | refine bN_ ?_ _ | refine bD_ ?_ | refine bA_ ?_ _)); exact BK255.out) hb); have n2_ := Aside0.mk (blk_below (g := gb256) (o := .cells #[.int .i64 x257000_16, .int .i64 x257001_16, .int .i64 x257002_16, .int .i64 x257003_16] 44 (0, 0)) (by (with_reducible repeat (first | refine bN_ ?_ _ | refine bD_ ?_ | refine bA_ ?_ _)); exact BK256.out) hb); have n3_ := Aside0.mk (below_step (by repeat (first | (with_reducible first | exact HB.out | apply lA_ | apply lN_ | apply lD_ | refine lS_ ?_ GE254.out | refine lS_ ?_ GE255.out | refine lS_ ?_ GE256.out) | exact HB.out)) hb); clear BK254; clear BK255; clear BK256; clear HB; have BK254 := n0_; have BK255 := n1_; have BK256 := n2_; have HB := n3_; clear n0_ n1_ n2_ n3_; (try clear hb); (try clear hb2); (try clear hk); (try clear hi)))
      (try simp only [Act.put, tS_, tZ_, tC_])
      go_cut [] (fun wc => ∃ (kq : Nat) (x257000_26 : Int) (x257001_26 : Int) (x257002_26 : Int) (x257003_26 : Int), Aside0 (affine_Box.j2 kq a0_0 a0_1 a0_2 a0_3 a0_4 a0_5 a1_0 a1_1 a1_2 a1_3 = some (r1, r2, r3, r4, r5)) ∧ Aside0 (kq ≤ kj16) ∧ Aside0 (wc.heap[gb254]? = some (.cells #[.int .i64 a0_0, .int .i64 a0_1, .int .i64 a0_2, .int .i64 a0_3, .int .i64 a0_4, .int .i64 a0_5] 23 (0, 0))) ∧ Aside0 (wc.heap[gb255]? = some (.cells #[.int .i64 a1_0, .int .i64 a1_1, .int .i64 a1_2, .int .i64 a1_3] 44 (0, 0))) ∧ Aside0 (wc.heap[gb256]? = some (.cells #[.int .i64 x257000_26, .int .i64 x257001_26, .int .i64 x257002_26, .int .i64 x257003_26] 44 (0, 0))) ∧ Aside0 (Below w.heap.size w wc))
      case first =>
        have H := HC27.out
        clear HC27
        by_cases c32 : t259 = true
        · subst c32
          have H1 : (some (0, 0, 0, 0, 0)) = some (r1, r2, r3, r4, r5) := by rw [if_pos rfl] at H; exact H
          clear H
          have H := H1
          clear H1
          simp only [Option.some.injEq, Prod.mk.injEq] at H
          obtain ⟨rfl, rfl, rfl, rfl, rfl⟩ := H
          have hnb33 := NB256_254.out
          have hnc33 := NB254_256.out
          have hnb34 := NB256_255.out
          have hnc34 := NB255_256.out
          have hcz35_0 : w31.cell? ⟨gb256, 0, none⟩ = some (.int .i64 x257000_16) := (blk_cell BK256.out 0).trans rfl
          have hcz35_1 : w31.cell? ⟨gb256, 1, none⟩ = some (.int .i64 x257001_16) := (blk_cell BK256.out 1).trans rfl
          have hcz35_2 : w31.cell? ⟨gb256, 2, none⟩ = some (.int .i64 x257002_16) := (blk_cell BK256.out 2).trans rfl
          have hcz35_3 : w31.cell? ⟨gb256, 3, none⟩ = some (.int .i64 x257003_16) := (blk_cell BK256.out 3).trans rfl
          have hfz35_0 := blk_frozen BK256.out 0
          have hfz35_1 := blk_frozen BK256.out 1
          have hfz35_2 := blk_frozen BK256.out 2
          have hfz35_3 := blk_frozen BK256.out 3
          go_wp2
          refine bodyPost_ret (results_ct rfl _ _ gb256 44 #[.int .i64 0, .int .i64 0, .int .i64 0, .int .i64 0] (0, 0) _ rfl (by (with_reducible repeat (first | refine bN_ ?_ _ | refine bD_ ?_ | refine bA_ ?_ _)); refine blk_put (cs := #[.int .i64 0, .int .i64 0, .int .i64 0, .int .i64 x257003_16]) ?_ 3 _ rfl; (with_reducible repeat (first | refine bN_ ?_ _ | refine bD_ ?_ | refine bA_ ?_ _)); refine blk_put (cs := #[.int .i64 0, .int .i64 0, .int .i64 x257002_16, .int .i64 x257003_16]) ?_ 2 _ rfl; (with_reducible repeat (first | refine bN_ ?_ _ | refine bD_ ?_ | refine bA_ ?_ _)); refine blk_put (cs := #[.int .i64 0, .int .i64 x257001_16, .int .i64 x257002_16, .int .i64 x257003_16]) ?_ 1 _ rfl; (with_reducible repeat (first | refine bN_ ?_ _ | refine bD_ ?_ | refine bA_ ?_ _)); refine blk_put (cs := #[.int .i64 x257000_16, .int .i64 x257001_16, .int .i64 x257002_16, .int .i64 x257003_16]) ?_ 0 _ rfl; (with_reducible repeat (first | refine bN_ ?_ _ | refine bD_ ?_ | refine bA_ ?_ _)); exact BK256.out) Try.underlying44 rfl (by kernel_rfl)) rfl ?_
          exact ⟨by first | rfl | (simp [errW_none, errW_some] <;> rfl) | (simp [*, errW_none, errW_some] <;> rfl), by repeat (first | (with_reducible first | exact HB.out | apply lA_ | apply lN_ | apply lD_ | refine lS_ ?_ GE254.out | refine lS_ ?_ GE255.out | refine lS_ ?_ GE256.out) | exact HB.out)⟩
        · replace c32 := Bool.eq_false_iff.mpr c32
          subst c32
          have H1 : (affine_Box.j2 kj16 a0_0 a0_1 a0_2 a0_3 a0_4 a0_5 a1_0 a1_1 a1_2 a1_3) = some (r1, r2, r3, r4, r5) := by rw [if_neg (show ¬ (false = true) by decide)] at H; exact H
          clear H
          have H := H1
          clear H1
          have H' := Aside0.mk H
          clear H
          go_wp2
          go_meet
          case rel => exact ⟨_, (x257000_16), (x257001_16), (x257002_16), (x257003_16), H', ⟨by have := HJ3.out; have := HJ16.out; first | omega | exact Nat.le_refl _⟩, ⟨by (with_reducible repeat (first | refine bN_ ?_ _ | refine bD_ ?_ | refine bA_ ?_ _)); exact BK254.out⟩, ⟨by (with_reducible repeat (first | refine bN_ ?_ _ | refine bD_ ?_ | refine bA_ ?_ _)); exact BK255.out⟩, ⟨by (with_reducible repeat (first | refine bN_ ?_ _ | refine bD_ ?_ | refine bA_ ?_ _)); exact BK256.out⟩, ⟨by repeat (first | (with_reducible first | exact HB.out | apply lA_ | apply lN_ | apply lD_ | refine lS_ ?_ GE254.out | refine lS_ ?_ GE255.out | refine lS_ ?_ GE256.out) | exact HB.out)⟩⟩
      clear HC27
      try clear c1
      try clear c2
      try clear p2
      try clear c3
      try clear c4
      try clear c8
      try clear c9
      try clear c10
      try clear c12
      try clear c12b0
      try clear c12b1
      try clear c13
      try clear c14
      try clear c18
      try clear c19
      try clear c22
      try clear c23
      try clear c24
      try clear c28
      try clear c29
      try clear c32
      try clear c33
      try clear c34
      try clear hcz10_0
      try clear hcz10_1
      try clear hcz10_2
      try clear hcz10_3
      try clear hcz10_4
      try clear hcz10_5
      try clear hcz15_0
      try clear hcz15_1
      try clear hcz15_2
      try clear hcz15_3
      try clear hcz20_0
      try clear hcz20_1
      try clear hcz20_2
      try clear hcz20_3
      try clear hcz25_0
      try clear hcz25_1
      try clear hcz25_2
      try clear hcz25_3
      try clear hcz30_0
      try clear hcz30_1
      try clear hcz30_2
      try clear hcz30_3
      try clear hcz35_0
      try clear hcz35_1
      try clear hcz35_2
      try clear hcz35_3
      try clear hfz10_0
      try clear hfz10_1
      try clear hfz10_2
      try clear hfz10_3
      try clear hfz10_4
      try clear hfz10_5
      try clear hfz15_0
      try clear hfz15_1
      try clear hfz15_2
      try clear hfz15_3
      try clear hfz20_0
      try clear hfz20_1
      try clear hfz20_2
      try clear hfz20_3
      try clear hfz25_0
      try clear hfz25_1
      try clear hfz25_2
      try clear hfz25_3
      try clear hfz30_0
      try clear hfz30_1
      try clear hfz30_2
      try clear hfz30_3
      try clear hfz35_0
      try clear hfz35_1
      try clear hfz35_2
      try clear hfz35_3
      try clear p2
      obtain ⟨kq, x257000_26, x257001_26, x257002_26, x257003_26, HA, HJ26, BK254, BK255, BK256, HB⟩ := hcut
      cases kq with
      | zero => exact absurd HA.out (by simp [affine_Box.j2])
      | succ kj26 =>
        have H := HA.out
        clear HA
        simp only [affine_Box.j2] at H
        replace H := Option.bind_eq_some_iff.mp H
        obtain ⟨⟨t260, t261⟩, A360, H⟩ := H
        replace H : ((affine_Box_1.f kj26 (wrap64 (a1_0 + a1_2)) a1_1 a0_0 a0_1 a0_2 a0_3 a0_4 a0_5).bind fun bt262 => ((affine_Box_1.f kj26 a1_0 (wrap64 (a1_1 + a1_3)) a0_0 a0_1 a0_2 a0_3 a0_4 a0_5).bind fun bt264 => ((affine_Box_1.f kj26 (wrap64 (a1_0 + a1_2)) (wrap64 (a1_1 + a1_3)) a0_0 a0_1 a0_2 a0_3 a0_4 a0_5).bind fun bt266 => ((affine_Box_2.f (mn (mn (mn t260 bt262.1) bt264.1) bt266.1)).bind fun t272 => ((affine_Box_3.f (mx (mx (mx t260 bt262.1) bt264.1) bt266.1)).bind fun t273 => ((affine_Box_2.f (mn (mn (mn t261 bt262.2) bt264.2) bt266.2)).bind fun t274 => ((affine_Box_3.f (mx (mx (mx t261 bt262.2) bt264.2) bt266.2)).bind fun t275 => (if t272 ≥ t273 then (affine_Box.j3 kj26 t272 t273 t274 t275 true) else (affine_Box.j3 kj26 t272 t273 t274 t275 (decide (t274 ≥ t275))))))))))) = some (r1, r2, r3, r4, r5) := H
        have A36 := Aside0.mk A360
        clear A360
        replace H := Option.bind_eq_some_iff.mp H
        obtain ⟨⟨t262, t263⟩, A370, H⟩ := H
        replace H : ((affine_Box_1.f kj26 a1_0 (wrap64 (a1_1 + a1_3)) a0_0 a0_1 a0_2 a0_3 a0_4 a0_5).bind fun bt264 => ((affine_Box_1.f kj26 (wrap64 (a1_0 + a1_2)) (wrap64 (a1_1 + a1_3)) a0_0 a0_1 a0_2 a0_3 a0_4 a0_5).bind fun bt266 => ((affine_Box_2.f (mn (mn (mn t260 t262) bt264.1) bt266.1)).bind fun t272 => ((affine_Box_3.f (mx (mx (mx t260 t262) bt264.1) bt266.1)).bind fun t273 => ((affine_Box_2.f (mn (mn (mn t261 t263) bt264.2) bt266.2)).bind fun t274 => ((affine_Box_3.f (mx (mx (mx t261 t263) bt264.2) bt266.2)).bind fun t275 => (if t272 ≥ t273 then (affine_Box.j3 kj26 t272 t273 t274 t275 true) else (affine_Box.j3 kj26 t272 t273 t274 t275 (decide (t274 ≥ t275)))))))))) = some (r1, r2, r3, r4, r5) := H
        have A37 := Aside0.mk A370
        clear A370
        replace H := Option.bind_eq_some_iff.mp H
        obtain ⟨⟨t264, t265⟩, A380, H⟩ := H
        replace H : ((affine_Box_1.f kj26 (wrap64 (a1_0 + a1_2)) (wrap64 (a1_1 + a1_3)) a0_0 a0_1 a0_2 a0_3 a0_4 a0_5).bind fun bt266 => ((affine_Box_2.f (mn (mn (mn t260 t262) t264) bt266.1)).bind fun t272 => ((affine_Box_3.f (mx (mx (mx t260 t262) t264) bt266.1)).bind fun t273 => ((affine_Box_2.f (mn (mn (mn t261 t263) t265) bt266.2)).bind fun t274 => ((affine_Box_3.f (mx (mx (mx t261 t263) t265) bt266.2)).bind fun t275 => (if t272 ≥ t273 then (affine_Box.j3 kj26 t272 t273 t274 t275 true) else (affine_Box.j3 kj26 t272 t273 t274 t275 (decide (t274 ≥ t275))))))))) = some (r1, r2, r3, r4, r5) := H
        have A38 := Aside0.mk A380
        clear A380
        replace H := Option.bind_eq_some_iff.mp H
        obtain ⟨⟨t266, t267⟩, A390, H⟩ := H
        replace H : ((affine_Box_2.f (mn (mn (mn t260 t262) t264) t266)).bind fun t272 => ((affine_Box_3.f (mx (mx (mx t260 t262) t264) t266)).bind fun t273 => ((affine_Box_2.f (mn (mn (mn t261 t263) t265) t267)).bind fun t274 => ((affine_Box_3.f (mx (mx (mx t261 t263) t265) t267)).bind fun t275 => (if t272 ≥ t273 then (affine_Box.j3 kj26 t272 t273 t274 t275 true) else (affine_Box.j3 kj26 t272 t273 t274 t275 (decide (t274 ≥ t275)))))))) = some (r1, r2, r3, r4, r5) := H
        have A39 := Aside0.mk A390
        clear A390
        obtain ⟨ji40, hji40⟩ : ∃ j_ : Int, (mn t260 t262) = j_ := ⟨_, rfl⟩
        replace H : ((affine_Box_2.f (mn (mn (ji40) t264) t266)).bind fun t272 => ((affine_Box_3.f (mx (mx (mx t260 t262) t264) t266)).bind fun t273 => ((affine_Box_2.f (mn (mn (mn t261 t263) t265) t267)).bind fun t274 => ((affine_Box_3.f (mx (mx (mx t261 t263) t265) t267)).bind fun t275 => (if t272 ≥ t273 then (affine_Box.j3 kj26 t272 t273 t274 t275 true) else (affine_Box.j3 kj26 t272 t273 t274 t275 (decide (t274 ≥ t275)))))))) = some (r1, r2, r3, r4, r5) := by first | (rw [hji40] at H; exact H) | (simp only [hji40] at H ⊢; exact H)
        (try rw [hji40] at A36)
        (try rw [hji40] at A37)
        (try rw [hji40] at A38)
        (try rw [hji40] at A39)
        have hji40_ : (if t262 < t260 then t262 else t260) = ji40 := hji40
        obtain ⟨ji41, hji41⟩ : ∃ j_ : Int, (mn (ji40) t264) = j_ := ⟨_, rfl⟩
        replace H : ((affine_Box_2.f (mn (ji41) t266)).bind fun t272 => ((affine_Box_3.f (mx (mx (mx t260 t262) t264) t266)).bind fun t273 => ((affine_Box_2.f (mn (mn (mn t261 t263) t265) t267)).bind fun t274 => ((affine_Box_3.f (mx (mx (mx t261 t263) t265) t267)).bind fun t275 => (if t272 ≥ t273 then (affine_Box.j3 kj26 t272 t273 t274 t275 true) else (affine_Box.j3 kj26 t272 t273 t274 t275 (decide (t274 ≥ t275)))))))) = some (r1, r2, r3, r4, r5) := by first | (rw [hji41] at H; exact H) | (simp only [hji41] at H ⊢; exact H)
        (try rw [hji41] at A36)
        (try rw [hji41] at A37)
        (try rw [hji41] at A38)
        (try rw [hji41] at A39)
        have hji41_ : (if t264 < (ji40) then t264 else (ji40)) = ji41 := hji41
        obtain ⟨ji42, hji42⟩ : ∃ j_ : Int, (mn (ji41) t266) = j_ := ⟨_, rfl⟩
        replace H : ((affine_Box_2.f (ji42)).bind fun t272 => ((affine_Box_3.f (mx (mx (mx t260 t262) t264) t266)).bind fun t273 => ((affine_Box_2.f (mn (mn (mn t261 t263) t265) t267)).bind fun t274 => ((affine_Box_3.f (mx (mx (mx t261 t263) t265) t267)).bind fun t275 => (if t272 ≥ t273 then (affine_Box.j3 kj26 t272 t273 t274 t275 true) else (affine_Box.j3 kj26 t272 t273 t274 t275 (decide (t274 ≥ t275)))))))) = some (r1, r2, r3, r4, r5) := by first | (rw [hji42] at H; exact H) | (simp only [hji42] at H ⊢; exact H)
        (try rw [hji42] at A36)
        (try rw [hji42] at A37)
        (try rw [hji42] at A38)
        (try rw [hji42] at A39)
        have hji42_ : (if t266 < (ji41) then t266 else (ji41)) = ji42 := hji42
        replace H := Option.bind_eq_some_iff.mp H
        obtain ⟨t272, A430, H⟩ := H
        replace H : ((affine_Box_3.f (mx (mx (mx t260 t262) t264) t266)).bind fun t273 => ((affine_Box_2.f (mn (mn (mn t261 t263) t265) t267)).bind fun t274 => ((affine_Box_3.f (mx (mx (mx t261 t263) t265) t267)).bind fun t275 => (if t272 ≥ t273 then (affine_Box.j3 kj26 t272 t273 t274 t275 true) else (affine_Box.j3 kj26 t272 t273 t274 t275 (decide (t274 ≥ t275))))))) = some (r1, r2, r3, r4, r5) := H
        have A43 := Aside0.mk A430
        clear A430
        obtain ⟨ji44, hji44⟩ : ∃ j_ : Int, (mx t260 t262) = j_ := ⟨_, rfl⟩
        replace H : ((affine_Box_3.f (mx (mx (ji44) t264) t266)).bind fun t273 => ((affine_Box_2.f (mn (mn (mn t261 t263) t265) t267)).bind fun t274 => ((affine_Box_3.f (mx (mx (mx t261 t263) t265) t267)).bind fun t275 => (if t272 ≥ t273 then (affine_Box.j3 kj26 t272 t273 t274 t275 true) else (affine_Box.j3 kj26 t272 t273 t274 t275 (decide (t274 ≥ t275))))))) = some (r1, r2, r3, r4, r5) := by first | (rw [hji44] at H; exact H) | (simp only [hji44] at H ⊢; exact H)
        (try rw [hji44] at A36)
        (try rw [hji44] at A37)
        (try rw [hji44] at A38)
        (try rw [hji44] at A39)
        (try rw [hji44] at A43)
        have hji44_ : (if t260 < t262 then t262 else t260) = ji44 := hji44
        obtain ⟨ji45, hji45⟩ : ∃ j_ : Int, (mx (ji44) t264) = j_ := ⟨_, rfl⟩
        replace H : ((affine_Box_3.f (mx (ji45) t266)).bind fun t273 => ((affine_Box_2.f (mn (mn (mn t261 t263) t265) t267)).bind fun t274 => ((affine_Box_3.f (mx (mx (mx t261 t263) t265) t267)).bind fun t275 => (if t272 ≥ t273 then (affine_Box.j3 kj26 t272 t273 t274 t275 true) else (affine_Box.j3 kj26 t272 t273 t274 t275 (decide (t274 ≥ t275))))))) = some (r1, r2, r3, r4, r5) := by first | (rw [hji45] at H; exact H) | (simp only [hji45] at H ⊢; exact H)
        (try rw [hji45] at A36)
        (try rw [hji45] at A37)
        (try rw [hji45] at A38)
        (try rw [hji45] at A39)
        (try rw [hji45] at A43)
        have hji45_ : (if (ji44) < t264 then t264 else (ji44)) = ji45 := hji45
        obtain ⟨ji46, hji46⟩ : ∃ j_ : Int, (mx (ji45) t266) = j_ := ⟨_, rfl⟩
        replace H : ((affine_Box_3.f (ji46)).bind fun t273 => ((affine_Box_2.f (mn (mn (mn t261 t263) t265) t267)).bind fun t274 => ((affine_Box_3.f (mx (mx (mx t261 t263) t265) t267)).bind fun t275 => (if t272 ≥ t273 then (affine_Box.j3 kj26 t272 t273 t274 t275 true) else (affine_Box.j3 kj26 t272 t273 t274 t275 (decide (t274 ≥ t275))))))) = some (r1, r2, r3, r4, r5) := by first | (rw [hji46] at H; exact H) | (simp only [hji46] at H ⊢; exact H)
        (try rw [hji46] at A36)
        (try rw [hji46] at A37)
        (try rw [hji46] at A38)
        (try rw [hji46] at A39)
        (try rw [hji46] at A43)
        have hji46_ : (if (ji45) < t266 then t266 else (ji45)) = ji46 := hji46
        replace H := Option.bind_eq_some_iff.mp H
        obtain ⟨t273, A470, H⟩ := H
        replace H : ((affine_Box_2.f (mn (mn (mn t261 t263) t265) t267)).bind fun t274 => ((affine_Box_3.f (mx (mx (mx t261 t263) t265) t267)).bind fun t275 => (if t272 ≥ t273 then (affine_Box.j3 kj26 t272 t273 t274 t275 true) else (affine_Box.j3 kj26 t272 t273 t274 t275 (decide (t274 ≥ t275)))))) = some (r1, r2, r3, r4, r5) := H
        have A47 := Aside0.mk A470
        clear A470
        obtain ⟨ji48, hji48⟩ : ∃ j_ : Int, (mn t261 t263) = j_ := ⟨_, rfl⟩
        replace H : ((affine_Box_2.f (mn (mn (ji48) t265) t267)).bind fun t274 => ((affine_Box_3.f (mx (mx (mx t261 t263) t265) t267)).bind fun t275 => (if t272 ≥ t273 then (affine_Box.j3 kj26 t272 t273 t274 t275 true) else (affine_Box.j3 kj26 t272 t273 t274 t275 (decide (t274 ≥ t275)))))) = some (r1, r2, r3, r4, r5) := by first | (rw [hji48] at H; exact H) | (simp only [hji48] at H ⊢; exact H)
        (try rw [hji48] at A36)
        (try rw [hji48] at A37)
        (try rw [hji48] at A38)
        (try rw [hji48] at A39)
        (try rw [hji48] at A43)
        (try rw [hji48] at A47)
        have hji48_ : (if t263 < t261 then t263 else t261) = ji48 := hji48
        obtain ⟨ji49, hji49⟩ : ∃ j_ : Int, (mn (ji48) t265) = j_ := ⟨_, rfl⟩
        replace H : ((affine_Box_2.f (mn (ji49) t267)).bind fun t274 => ((affine_Box_3.f (mx (mx (mx t261 t263) t265) t267)).bind fun t275 => (if t272 ≥ t273 then (affine_Box.j3 kj26 t272 t273 t274 t275 true) else (affine_Box.j3 kj26 t272 t273 t274 t275 (decide (t274 ≥ t275)))))) = some (r1, r2, r3, r4, r5) := by first | (rw [hji49] at H; exact H) | (simp only [hji49] at H ⊢; exact H)
        (try rw [hji49] at A36)
        (try rw [hji49] at A37)
        (try rw [hji49] at A38)
        (try rw [hji49] at A39)
        (try rw [hji49] at A43)
        (try rw [hji49] at A47)
        have hji49_ : (if t265 < (ji48) then t265 else (ji48)) = ji49 := hji49
        obtain ⟨ji50, hji50⟩ : ∃ j_ : Int, (mn (ji49) t267) = j_ := ⟨_, rfl⟩
        replace H : ((affine_Box_2.f (ji50)).bind fun t274 => ((affine_Box_3.f (mx (mx (mx t261 t263) t265) t267)).bind fun t275 => (if t272 ≥ t273 then (affine_Box.j3 kj26 t272 t273 t274 t275 true) else (affine_Box.j3 kj26 t272 t273 t274 t275 (decide (t274 ≥ t275)))))) = some (r1, r2, r3, r4, r5) := by first | (rw [hji50] at H; exact H) | (simp only [hji50] at H ⊢; exact H)
        (try rw [hji50] at A36)
        (try rw [hji50] at A37)
        (try rw [hji50] at A38)
        (try rw [hji50] at A39)
        (try rw [hji50] at A43)
        (try rw [hji50] at A47)
        have hji50_ : (if t267 < (ji49) then t267 else (ji49)) = ji50 := hji50
        replace H := Option.bind_eq_some_iff.mp H
        obtain ⟨t274, A510, H⟩ := H
        replace H : ((affine_Box_3.f (mx (mx (mx t261 t263) t265) t267)).bind fun t275 => (if t272 ≥ t273 then (affine_Box.j3 kj26 t272 t273 t274 t275 true) else (affine_Box.j3 kj26 t272 t273 t274 t275 (decide (t274 ≥ t275))))) = some (r1, r2, r3, r4, r5) := H
        have A51 := Aside0.mk A510
        clear A510
        obtain ⟨ji52, hji52⟩ : ∃ j_ : Int, (mx t261 t263) = j_ := ⟨_, rfl⟩
        replace H : ((affine_Box_3.f (mx (mx (ji52) t265) t267)).bind fun t275 => (if t272 ≥ t273 then (affine_Box.j3 kj26 t272 t273 t274 t275 true) else (affine_Box.j3 kj26 t272 t273 t274 t275 (decide (t274 ≥ t275))))) = some (r1, r2, r3, r4, r5) := by first | (rw [hji52] at H; exact H) | (simp only [hji52] at H ⊢; exact H)
        (try rw [hji52] at A36)
        (try rw [hji52] at A37)
        (try rw [hji52] at A38)
        (try rw [hji52] at A39)
        (try rw [hji52] at A43)
        (try rw [hji52] at A47)
        (try rw [hji52] at A51)
        have hji52_ : (if t261 < t263 then t263 else t261) = ji52 := hji52
        obtain ⟨ji53, hji53⟩ : ∃ j_ : Int, (mx (ji52) t265) = j_ := ⟨_, rfl⟩
        replace H : ((affine_Box_3.f (mx (ji53) t267)).bind fun t275 => (if t272 ≥ t273 then (affine_Box.j3 kj26 t272 t273 t274 t275 true) else (affine_Box.j3 kj26 t272 t273 t274 t275 (decide (t274 ≥ t275))))) = some (r1, r2, r3, r4, r5) := by first | (rw [hji53] at H; exact H) | (simp only [hji53] at H ⊢; exact H)
        (try rw [hji53] at A36)
        (try rw [hji53] at A37)
        (try rw [hji53] at A38)
        (try rw [hji53] at A39)
        (try rw [hji53] at A43)
        (try rw [hji53] at A47)
        (try rw [hji53] at A51)
        have hji53_ : (if (ji52) < t265 then t265 else (ji52)) = ji53 := hji53
        obtain ⟨ji54, hji54⟩ : ∃ j_ : Int, (mx (ji53) t267) = j_ := ⟨_, rfl⟩
        replace H : ((affine_Box_3.f (ji54)).bind fun t275 => (if t272 ≥ t273 then (affine_Box.j3 kj26 t272 t273 t274 t275 true) else (affine_Box.j3 kj26 t272 t273 t274 t275 (decide (t274 ≥ t275))))) = some (r1, r2, r3, r4, r5) := by first | (rw [hji54] at H; exact H) | (simp only [hji54] at H ⊢; exact H)
        (try rw [hji54] at A36)
        (try rw [hji54] at A37)
        (try rw [hji54] at A38)
        (try rw [hji54] at A39)
        (try rw [hji54] at A43)
        (try rw [hji54] at A47)
        (try rw [hji54] at A51)
        have hji54_ : (if (ji53) < t267 then t267 else (ji53)) = ji54 := hji54
        replace H := Option.bind_eq_some_iff.mp H
        obtain ⟨t275, A550, H⟩ := H
        replace H : (if t272 ≥ t273 then (affine_Box.j3 kj26 t272 t273 t274 t275 true) else (affine_Box.j3 kj26 t272 t273 t274 t275 (decide (t274 ≥ t275)))) = some (r1, r2, r3, r4, r5) := H
        have A55 := Aside0.mk A550
        clear A550
        have HC56 := Aside0.mk H
        clear H
        try go_wp2
        have n0_ := Aside0.mk (blk_drew BK254.out)
        have n1_ := Aside0.mk (blk_drew BK255.out)
        have n2_ := Aside0.mk (blk_drew BK256.out)
        have n3_ := Aside0.mk (lD_ HB.out)
        clear BK254 BK255 BK256 HB
        have BK254 := n0_; have BK255 := n1_; have BK256 := n2_; have HB := n3_
        clear n0_ n1_ n2_ n3_
        refine start_ (n := 44) (S := fun w' => True) (ds := []) #[false, false, false, false, false, false, false, false, false, false, false, false, false, false, false, false, false, false, false, false, false, false, false, false, false, false, false, false, false, false, false, false, false, false, false, false, false, false, false, false, false, false, false, false] (by kernel_rfl) rfl rfl trivial (fun hHeld => ?_); refine with_tabW affine_Box.tab9 affine_Box.bits9 (fun HT_ HW_ => ?_)
        generalize wc.drew = w57 at BK254 BK255 BK256 HB hHeld ⊢
        refine pure_ (i := 0) (N := some 32) (v := ?_) (a' := ?_) #[true, false, false, false, false, false, false, false, false, false, false, false, false, false, false, false, false, false, false, false, false, false, false, false, false, false, false, false, false, false, false, false, false, false, false, false, false, false, false, false, false, false, false, false] rfl rfl (any_of HT_.out (by kernel_rfl)) (fun _ _ _ h => h) (Or.inl ⟨by rfl, ?_⟩) ?_ ?_
        rotate_left
        · intro w'
          go_simp
          with_reducible rfl
        rotate_left
        · simp only [Act.put, tS_, tZ_, tC_, i64_w, i32_w]
          rfl
        refine pure_ (i := 1) (N := some 33) (v := ?_) (a' := ?_) #[true, true, false, false, false, false, false, false, false, false, false, false, false, false, false, false, false, false, false, false, false, false, false, false, false, false, false, false, false, false, false, false, false, false, false, false, false, false, false, false, false, false, false, false] rfl rfl (any_of HT_.out (by kernel_rfl)) (fun _ _ _ h => h) (Or.inl ⟨by rfl, ?_⟩) ?_ ?_
        rotate_left
        · intro w'
          go_simp
          with_reducible rfl
        rotate_left
        · simp only [Act.put, tS_, tZ_, tC_, i64_w, i32_w]
          rfl
        refine pure_ (i := 3) (N := some 35) (v := ?_) (a' := ?_) #[true, true, false, true, false, false, false, false, false, false, false, false, false, false, false, false, false, false, false, false, false, false, false, false, false, false, false, false, false, false, false, false, false, false, false, false, false, false, false, false, false, false, false, false] rfl rfl (any_of HT_.out (by kernel_rfl)) (fun _ _ _ h => h) (Or.inl ⟨by rfl, ?_⟩) ?_ ?_
        rotate_left
        · intro w'
          go_simp
          with_reducible rfl
        rotate_left
        · simp only [Act.put, tS_, tZ_, tC_, i64_w, i32_w]
          rfl
        refine pure_ (i := 6) (N := some 38) (v := ?_) (a' := ?_) #[true, true, false, true, false, false, true, false, false, false, false, false, false, false, false, false, false, false, false, false, false, false, false, false, false, false, false, false, false, false, false, false, false, false, false, false, false, false, false, false, false, false, false, false] rfl rfl (any_of HT_.out (by kernel_rfl)) (fun _ _ _ h => h) (Or.inl ⟨by rfl, ?_⟩) ?_ ?_
        rotate_left
        · intro w'
          go_simp
          with_reducible rfl
        rotate_left
        · simp only [Act.put, tS_, tZ_, tC_, i64_w, i32_w]
          rfl
        refine pure_ (i := 7) (N := some 39) (v := ?_) (a' := ?_) #[true, true, false, true, false, false, true, true, false, false, false, false, false, false, false, false, false, false, false, false, false, false, false, false, false, false, false, false, false, false, false, false, false, false, false, false, false, false, false, false, false, false, false, false] rfl rfl (any_of HT_.out (by kernel_rfl)) (fun _ _ _ h => h) (Or.inl ⟨by rfl, ?_⟩) ?_ ?_
        rotate_left
        · intro w'
          go_simp
          with_reducible rfl
        rotate_left
        · simp only [Act.put, tS_, tZ_, tC_, i64_w, i32_w]
          rfl
        refine pure_ (i := 9) (N := some 41) (v := ?_) (a' := ?_) #[true, true, false, true, false, false, true, true, false, true, false, false, false, false, false, false, false, false, false, false, false, false, false, false, false, false, false, false, false, false, false, false, false, false, false, false, false, false, false, false, false, false, false, false] rfl rfl (any_of HT_.out (by kernel_rfl)) (fun _ _ _ h => h) (Or.inl ⟨by rfl, ?_⟩) ?_ ?_
        rotate_left
        · intro w'
          go_simp
          with_reducible rfl
        rotate_left
        · simp only [Act.put, tS_, tZ_, tC_, i64_w, i32_w]
          rfl
        refine pure_ (i := 12) (N := some 44) (v := ?_) (a' := ?_) #[true, true, false, true, false, false, true, true, false, true, false, false, true, false, false, false, false, false, false, false, false, false, false, false, false, false, false, false, false, false, false, false, false, false, false, false, false, false, false, false, false, false, false, false] rfl rfl (any_of HT_.out (by kernel_rfl)) (fun _ _ _ h => h) (Or.inl ⟨by rfl, ?_⟩) ?_ ?_
        rotate_left
        · intro w'
          go_simp
          with_reducible rfl
        rotate_left
        · simp only [Act.put, tS_, tZ_, tC_, i64_w, i32_w]
          rfl
        refine pure_ (i := 15) (N := some 47) (v := ?_) (a' := ?_) #[true, true, false, true, false, false, true, true, false, true, false, false, true, false, false, true, false, false, false, false, false, false, false, false, false, false, false, false, false, false, false, false, false, false, false, false, false, false, false, false, false, false, false, false] rfl rfl (any_of HT_.out (by kernel_rfl)) (fun _ _ _ h => h) (Or.inl ⟨by rfl, ?_⟩) ?_ ?_
        rotate_left
        · intro w'
          go_simp
          with_reducible rfl
        rotate_left
        · simp only [Act.put, tS_, tZ_, tC_, i64_w, i32_w]
          rfl
        refine pure_ (i := 16) (N := some 48) (v := ?_) (a' := ?_) #[true, true, false, true, false, false, true, true, false, true, false, false, true, false, false, true, true, false, false, false, false, false, false, false, false, false, false, false, false, false, false, false, false, false, false, false, false, false, false, false, false, false, false, false] rfl rfl (any_of HT_.out (by kernel_rfl)) (fun _ _ _ h => h) (Or.inl ⟨by rfl, ?_⟩) ?_ ?_
        rotate_left
        · intro w'
          go_simp
          with_reducible rfl
        rotate_left
        · simp only [Act.put, tS_, tZ_, tC_, i64_w, i32_w]
          rfl
        refine pure_ (i := 18) (N := some 50) (v := ?_) (a' := ?_) #[true, true, false, true, false, false, true, true, false, true, false, false, true, false, false, true, true, false, true, false, false, false, false, false, false, false, false, false, false, false, false, false, false, false, false, false, false, false, false, false, false, false, false, false] rfl rfl (any_of HT_.out (by kernel_rfl)) (fun _ _ _ h => h) (Or.inl ⟨by rfl, ?_⟩) ?_ ?_
        rotate_left
        · intro w'
          go_simp
          with_reducible rfl
        rotate_left
        · simp only [Act.put, tS_, tZ_, tC_, i64_w, i32_w]
          rfl
        refine pure_ (i := 20) (N := some 52) (v := ?_) (a' := ?_) #[true, true, false, true, false, false, true, true, false, true, false, false, true, false, false, true, true, false, true, false, true, false, false, false, false, false, false, false, false, false, false, false, false, false, false, false, false, false, false, false, false, false, false, false] rfl rfl (any_of HT_.out (by kernel_rfl)) (fun _ _ _ h => h) (Or.inl ⟨by rfl, ?_⟩) ?_ ?_
        rotate_left
        · intro w'
          go_simp
          with_reducible rfl
        rotate_left
        · simp only [Act.put, tS_, tZ_, tC_, i64_w, i32_w]
          rfl
        refine pure_ (i := 24) (N := some 56) (v := ?_) (a' := ?_) #[true, true, false, true, false, false, true, true, false, true, false, false, true, false, false, true, true, false, true, false, true, false, false, false, true, false, false, false, false, false, false, false, false, false, false, false, false, false, false, false, false, false, false, false] rfl rfl (any_of HT_.out (by kernel_rfl)) (fun _ _ _ h => h) (Or.inl ⟨by rfl, ?_⟩) ?_ ?_
        rotate_left
        · intro w'
          go_simp
          with_reducible rfl
        rotate_left
        · simp only [Act.put, tS_, tZ_, tC_, i64_w, i32_w]
          rfl
        refine pure_ (i := 25) (N := some 57) (v := ?_) (a' := ?_) #[true, true, false, true, false, false, true, true, false, true, false, false, true, false, false, true, true, false, true, false, true, false, false, false, true, true, false, false, false, false, false, false, false, false, false, false, false, false, false, false, false, false, false, false] rfl rfl (any_of HT_.out (by kernel_rfl)) (fun _ _ _ h => h) (Or.inl ⟨by rfl, ?_⟩) ?_ ?_
        rotate_left
        · intro w'
          go_simp
          with_reducible rfl
        rotate_left
        · simp only [Act.put, tS_, tZ_, tC_, i64_w, i32_w]
          rfl
        refine pure_ (i := 27) (N := some 59) (v := ?_) (a' := ?_) #[true, true, false, true, false, false, true, true, false, true, false, false, true, false, false, true, true, false, true, false, true, false, false, false, true, true, false, true, false, false, false, false, false, false, false, false, false, false, false, false, false, false, false, false] rfl rfl (any_of HT_.out (by kernel_rfl)) (fun _ _ _ h => h) (Or.inl ⟨by rfl, ?_⟩) ?_ ?_
        rotate_left
        · intro w'
          go_simp
          with_reducible rfl
        rotate_left
        · simp only [Act.put, tS_, tZ_, tC_, i64_w, i32_w]
          rfl
        refine pure_ (i := 30) (N := some 62) (v := ?_) (a' := ?_) #[true, true, false, true, false, false, true, true, false, true, false, false, true, false, false, true, true, false, true, false, true, false, false, false, true, true, false, true, false, false, true, false, false, false, false, false, false, false, false, false, false, false, false, false] rfl rfl (any_of HT_.out (by kernel_rfl)) (fun _ _ _ h => h) (Or.inl ⟨by rfl, ?_⟩) ?_ ?_
        rotate_left
        · intro w'
          go_simp
          with_reducible rfl
        rotate_left
        · simp only [Act.put, tS_, tZ_, tC_, i64_w, i32_w]
          rfl
        refine pure_ (i := 32) (N := some 64) (v := ?_) (a' := ?_) #[true, true, false, true, false, false, true, true, false, true, false, false, true, false, false, true, true, false, true, false, true, false, false, false, true, true, false, true, false, false, true, false, true, false, false, false, false, false, false, false, false, false, false, false] rfl rfl (any_of HT_.out (by kernel_rfl)) (fun _ _ _ h => h) (Or.inl ⟨by rfl, ?_⟩) ?_ ?_
        rotate_left
        · intro w'
          go_simp
          with_reducible rfl
        rotate_left
        · simp only [Act.put, tS_, tZ_, tC_, i64_w, i32_w]
          rfl
        refine inv_at [2, 4, 5, 8, 10, 11, 13, 14, 17, 19, 21, 22, 23, 26, 28, 29, 31, 33, 34, 35, 36, 37, 38, 39, 40, 41, 42, 43] (fun a0_ b a w' => ∃ (gb268 : Nat) (gb269 : Nat) (gb270 : Nat) (gb271 : Nat) (m36_ : Value) (m37_ : Value) (m38_ : Value) (m39_ : Value), a = putSel a0_ b [(2, 34, .int .i64 a1_0), (4, 36, .int .i64 a1_1), (5, 37, .agg #[.int .i64 t260, .int .i64 t261]), (8, 40, .int .i64 a1_0), (10, 42, .int .i64 a1_2), (11, 43, .int .i64 (wrap64 (a1_0 + a1_2))), (13, 45, .int .i64 a1_1), (14, 46, .agg #[.int .i64 t262, .int .i64 t263]), (17, 49, .int .i64 a1_0), (19, 51, .int .i64 a1_1), (21, 53, .int .i64 a1_3), (22, 54, .int .i64 (wrap64 (a1_1 + a1_3))), (23, 55, .agg #[.int .i64 t264, .int .i64 t265]), (26, 58, .int .i64 a1_0), (28, 60, .int .i64 a1_2), (29, 61, .int .i64 (wrap64 (a1_0 + a1_2))), (31, 63, .int .i64 a1_1), (33, 65, .int .i64 a1_3), (34, 66, .int .i64 (wrap64 (a1_1 + a1_3))), (35, 67, .agg #[.int .i64 t266, .int .i64 t267]), (36, 8, m36_), (37, 9, m37_), (38, 10, m38_), (39, 11, m39_)] ∧ (w'.heap[gb254]? = some (.cells #[.int .i64 a0_0, .int .i64 a0_1, .int .i64 a0_2, .int .i64 a0_3, .int .i64 a0_4, .int .i64 a0_5] 23 (0, 0))) ∧ (w'.heap[gb255]? = some (.cells #[.int .i64 a1_0, .int .i64 a1_1, .int .i64 a1_2, .int .i64 a1_3] 44 (0, 0))) ∧ (w'.heap[gb256]? = some (.cells #[.int .i64 x257000_26, .int .i64 x257001_26, .int .i64 x257002_26, .int .i64 x257003_26] 44 (0, 0))) ∧ (Below w.heap.size w w') ∧ (b 36 = true → b 37 = true → gb269 ≠ gb268) ∧ (b 36 = true → b 37 = true → gb268 ≠ gb269) ∧ (b 36 = true → b 38 = true → gb270 ≠ gb268) ∧ (b 36 = true → b 38 = true → gb268 ≠ gb270) ∧ (b 36 = true → b 39 = true → gb271 ≠ gb268) ∧ (b 36 = true → b 39 = true → gb268 ≠ gb271) ∧ (b 37 = true → b 38 = true → gb270 ≠ gb269) ∧ (b 37 = true → b 38 = true → gb269 ≠ gb270) ∧ (b 37 = true → b 39 = true → gb271 ≠ gb269) ∧ (b 37 = true → b 39 = true → gb269 ≠ gb271) ∧ (b 38 = true → b 39 = true → gb271 ≠ gb270) ∧ (b 38 = true → b 39 = true → gb270 ≠ gb271) ∧ (b 36 = true → b 40 = false → w'.heap[gb268]? = some (.cells #[.int .i64 0, .int .i64 0] 25 (0, 0))) ∧ (b 36 = true → w.heap.size ≤ gb268) ∧ (b 36 = true → w.heap.size ≤ gb268) ∧ (b 36 = true → gb254 ≠ gb268) ∧ (b 36 = true → gb268 ≠ gb254) ∧ (b 36 = true → gb255 ≠ gb268) ∧ (b 36 = true → gb268 ≠ gb255) ∧ (b 36 = true → gb256 ≠ gb268) ∧ (b 36 = true → gb268 ≠ gb256) ∧ (b 37 = true → b 41 = false → w'.heap[gb269]? = some (.cells #[.int .i64 0, .int .i64 0] 25 (0, 0))) ∧ (b 37 = true → w.heap.size ≤ gb269) ∧ (b 37 = true → w.heap.size ≤ gb269) ∧ (b 37 = true → gb254 ≠ gb269) ∧ (b 37 = true → gb269 ≠ gb254) ∧ (b 37 = true → gb255 ≠ gb269) ∧ (b 37 = true → gb269 ≠ gb255) ∧ (b 37 = true → gb256 ≠ gb269) ∧ (b 37 = true → gb269 ≠ gb256) ∧ (b 38 = true → b 42 = false → w'.heap[gb270]? = some (.cells #[.int .i64 0, .int .i64 0] 25 (0, 0))) ∧ (b 38 = true → w.heap.size ≤ gb270) ∧ (b 38 = true → w.heap.size ≤ gb270) ∧ (b 38 = true → gb254 ≠ gb270) ∧ (b 38 = true → gb270 ≠ gb254) ∧ (b 38 = true → gb255 ≠ gb270) ∧ (b 38 = true → gb270 ≠ gb255) ∧ (b 38 = true → gb256 ≠ gb270) ∧ (b 38 = true → gb270 ≠ gb256) ∧ (b 39 = true → b 43 = false → w'.heap[gb271]? = some (.cells #[.int .i64 0, .int .i64 0] 25 (0, 0))) ∧ (b 39 = true → w.heap.size ≤ gb271) ∧ (b 39 = true → w.heap.size ≤ gb271) ∧ (b 39 = true → gb254 ≠ gb271) ∧ (b 39 = true → gb271 ≠ gb254) ∧ (b 39 = true → gb255 ≠ gb271) ∧ (b 39 = true → gb271 ≠ gb255) ∧ (b 39 = true → gb256 ≠ gb271) ∧ (b 39 = true → gb271 ≠ gb256) ∧ (b 40 = true → w'.heap[gb268]? = some (.cells #[.int .i64 t260, .int .i64 t261] 25 (0, 0))) ∧ (b 41 = true → w'.heap[gb269]? = some (.cells #[.int .i64 t262, .int .i64 t263] 25 (0, 0))) ∧ (b 42 = true → w'.heap[gb270]? = some (.cells #[.int .i64 t264, .int .i64 t265] 25 (0, 0))) ∧ (b 43 = true → w'.heap[gb271]? = some (.cells #[.int .i64 t266, .int .i64 t267] 25 (0, 0))) ∧ (b 36 = true → (m36_ : Value) = .pointer (some ⟨gb268, 0, none⟩)) ∧ (b 37 = true → (m37_ : Value) = .pointer (some ⟨gb269, 0, none⟩)) ∧ (b 38 = true → (m38_ : Value) = .pointer (some ⟨gb270, 0, none⟩)) ∧ (b 39 = true → (m39_ : Value) = .pointer (some ⟨gb271, 0, none⟩))) HT_.out HW_.out (by kernel_rfl) (by kernel_rfl) ?_ ?_ ?_
        · exact ⟨0, 0, 0, 0, .bool false, .bool false, .bool false, .bool false, by simp only [putSel, Bool.false_eq_true, if_false], BK254.out, BK255.out, BK256.out, HB.out, fun h_ => absurd h_ (by decide), fun h_ => absurd h_ (by decide), fun h_ => absurd h_ (by decide), fun h_ => absurd h_ (by decide), fun h_ => absurd h_ (by decide), fun h_ => absurd h_ (by decide), fun h_ => absurd h_ (by decide), fun h_ => absurd h_ (by decide), fun h_ => absurd h_ (by decide), fun h_ => absurd h_ (by decide), fun h_ => absurd h_ (by decide), fun h_ => absurd h_ (by decide), fun h_ => absurd h_ (by decide), fun h_ => absurd h_ (by decide), fun h_ => absurd h_ (by decide), fun h_ => absurd h_ (by decide), fun h_ => absurd h_ (by decide), fun h_ => absurd h_ (by decide), fun h_ => absurd h_ (by decide), fun h_ => absurd h_ (by decide), fun h_ => absurd h_ (by decide), fun h_ => absurd h_ (by decide), fun h_ => absurd h_ (by decide), fun h_ => absurd h_ (by decide), fun h_ => absurd h_ (by decide), fun h_ => absurd h_ (by decide), fun h_ => absurd h_ (by decide), fun h_ => absurd h_ (by decide), fun h_ => absurd h_ (by decide), fun h_ => absurd h_ (by decide), fun h_ => absurd h_ (by decide), fun h_ => absurd h_ (by decide), fun h_ => absurd h_ (by decide), fun h_ => absurd h_ (by decide), fun h_ => absurd h_ (by decide), fun h_ => absurd h_ (by decide), fun h_ => absurd h_ (by decide), fun h_ => absurd h_ (by decide), fun h_ => absurd h_ (by decide), fun h_ => absurd h_ (by decide), fun h_ => absurd h_ (by decide), fun h_ => absurd h_ (by decide), fun h_ => absurd h_ (by decide), fun h_ => absurd h_ (by decide), fun h_ => absurd h_ (by decide), fun h_ => absurd h_ (by decide), fun h_ => absurd h_ (by decide), fun h_ => absurd h_ (by decide), fun h_ => absurd h_ (by decide), fun h_ => absurd h_ (by decide), fun h_ => absurd h_ (by decide), fun h_ => absurd h_ (by decide), fun h_ => absurd h_ (by decide), fun h_ => absurd h_ (by decide), fun h_ => absurd h_ (by decide), fun h_ => absurd h_ (by decide)⟩
        · skip
          clear BK254 BK255 BK256 HB
          refine steps_cons ?_ ?_
          · rintro b a w' ⟨gb268, gb269, gb270, gb271, m36_, m37_, m38_, m39_, ha, Q_BK254, Q_BK255, Q_BK256, Q_HB, Q_NB269_268, Q_NB268_269, Q_NB270_268, Q_NB268_270, Q_NB271_268, Q_NB268_271, Q_NB270_269, Q_NB269_270, Q_NB271_269, Q_NB269_271, Q_NB271_270, Q_NB270_271, Q_BK268, Q_GW268, Q_GE268, Q_NB254_268, Q_NB268_254, Q_NB255_268, Q_NB268_255, Q_NB256_268, Q_NB268_256, Q_BK269, Q_GW269, Q_GE269, Q_NB254_269, Q_NB269_254, Q_NB255_269, Q_NB269_255, Q_NB256_269, Q_NB269_256, Q_BK270, Q_GW270, Q_GE270, Q_NB254_270, Q_NB270_254, Q_NB255_270, Q_NB270_255, Q_NB256_270, Q_NB270_256, Q_BK271, Q_GW271, Q_GE271, Q_NB254_271, Q_NB271_254, Q_NB255_271, Q_NB271_255, Q_NB256_271, Q_NB271_256, Q_BK268_e40, Q_BK269_e41, Q_BK270_e42, Q_BK271_e43, Q_X36_, Q_X37_, Q_X38_, Q_X39_⟩ hb_ hon hoff
            refine ⟨_, rfl, fun K hK => ?_⟩
            have e33 : a.tmps[33]? = some (.pointer (some ⟨gb255, 0, none⟩)) := by rw [ha]; exact (putSel_off rfl).trans rfl
            replace ha := Aside0.mk ha
            have BK254 := Aside0.mk Q_BK254
            have BK255 := Aside0.mk Q_BK255
            have BK256 := Aside0.mk Q_BK256
            have HB := Aside0.mk Q_HB
            have hc0_ : w'.cell? ⟨gb255, 0, none⟩ = some (.int .i64 a1_0) := (blk_cell BK255.out 0).trans rfl
            have hc1_ : w'.cell? ⟨gb255, 1, none⟩ = some (.int .i64 a1_1) := (blk_cell BK255.out 1).trans rfl
            have hc2_ : w'.cell? ⟨gb255, 2, none⟩ = some (.int .i64 a1_2) := (blk_cell BK255.out 2).trans rfl
            have hc3_ : w'.cell? ⟨gb255, 3, none⟩ = some (.int .i64 a1_3) := (blk_cell BK255.out 3).trans rfl
            refine value_ (w1 := w') (v := .int .i64 a1_0) (by rfl) rfl ?_ ?_
            · go_simp
              (try simp only [i64_w])
              try rfl
            refine hK.out _ _ ⟨gb268, gb269, gb270, gb271, m36_, m37_, m38_, m39_, (by rw [ha.out]; exact putSel_upk 0 hb_ rfl rfl rfl), Q_BK254, Q_BK255, Q_BK256, Q_HB, Q_NB269_268, Q_NB268_269, Q_NB270_268, Q_NB268_270, Q_NB271_268, Q_NB268_271, Q_NB270_269, Q_NB269_270, Q_NB271_269, Q_NB269_271, Q_NB271_270, Q_NB270_271, Q_BK268, Q_GW268, Q_GE268, Q_NB254_268, Q_NB268_254, Q_NB255_268, Q_NB268_255, Q_NB256_268, Q_NB268_256, Q_BK269, Q_GW269, Q_GE269, Q_NB254_269, Q_NB269_254, Q_NB255_269, Q_NB269_255, Q_NB256_269, Q_NB269_256, Q_BK270, Q_GW270, Q_GE270, Q_NB254_270, Q_NB270_254, Q_NB255_270, Q_NB270_255, Q_NB256_270, Q_NB270_256, Q_BK271, Q_GW271, Q_GE271, Q_NB254_271, Q_NB271_254, Q_NB255_271, Q_NB271_255, Q_NB256_271, Q_NB271_256, fun h0_ => absurd ((hoff 40 (by kernel_rfl)).symm.trans h0_) (by decide), fun h0_ => absurd ((hoff 41 (by kernel_rfl)).symm.trans h0_) (by decide), fun h0_ => absurd ((hoff 42 (by kernel_rfl)).symm.trans h0_) (by decide), fun h0_ => absurd ((hoff 43 (by kernel_rfl)).symm.trans h0_) (by decide), Q_X36_, Q_X37_, Q_X38_, Q_X39_⟩
          refine steps_cons ?_ ?_
          · rintro b a w' ⟨gb268, gb269, gb270, gb271, m36_, m37_, m38_, m39_, ha, Q_BK254, Q_BK255, Q_BK256, Q_HB, Q_NB269_268, Q_NB268_269, Q_NB270_268, Q_NB268_270, Q_NB271_268, Q_NB268_271, Q_NB270_269, Q_NB269_270, Q_NB271_269, Q_NB269_271, Q_NB271_270, Q_NB270_271, Q_BK268, Q_GW268, Q_GE268, Q_NB254_268, Q_NB268_254, Q_NB255_268, Q_NB268_255, Q_NB256_268, Q_NB268_256, Q_BK269, Q_GW269, Q_GE269, Q_NB254_269, Q_NB269_254, Q_NB255_269, Q_NB269_255, Q_NB256_269, Q_NB269_256, Q_BK270, Q_GW270, Q_GE270, Q_NB254_270, Q_NB270_254, Q_NB255_270, Q_NB270_255, Q_NB256_270, Q_NB270_256, Q_BK271, Q_GW271, Q_GE271, Q_NB254_271, Q_NB271_254, Q_NB255_271, Q_NB271_255, Q_NB256_271, Q_NB271_256, Q_BK268_e40, Q_BK269_e41, Q_BK270_e42, Q_BK271_e43, Q_X36_, Q_X37_, Q_X38_, Q_X39_⟩ hb_ hon hoff
            refine ⟨_, rfl, fun K hK => ?_⟩
            have e35 : a.tmps[35]? = some (.pointer (some ⟨gb255, 1, none⟩)) := by rw [ha]; exact (putSel_off rfl).trans rfl
            replace ha := Aside0.mk ha
            have BK254 := Aside0.mk Q_BK254
            have BK255 := Aside0.mk Q_BK255
            have BK256 := Aside0.mk Q_BK256
            have HB := Aside0.mk Q_HB
            have hc0_ : w'.cell? ⟨gb255, 0, none⟩ = some (.int .i64 a1_0) := (blk_cell BK255.out 0).trans rfl
            have hc1_ : w'.cell? ⟨gb255, 1, none⟩ = some (.int .i64 a1_1) := (blk_cell BK255.out 1).trans rfl
            have hc2_ : w'.cell? ⟨gb255, 2, none⟩ = some (.int .i64 a1_2) := (blk_cell BK255.out 2).trans rfl
            have hc3_ : w'.cell? ⟨gb255, 3, none⟩ = some (.int .i64 a1_3) := (blk_cell BK255.out 3).trans rfl
            refine value_ (w1 := w') (v := .int .i64 a1_1) (by rfl) rfl ?_ ?_
            · go_simp
              (try simp only [i64_w])
              try rfl
            refine hK.out _ _ ⟨gb268, gb269, gb270, gb271, m36_, m37_, m38_, m39_, (by rw [ha.out]; exact putSel_upk 1 hb_ rfl rfl rfl), Q_BK254, Q_BK255, Q_BK256, Q_HB, Q_NB269_268, Q_NB268_269, Q_NB270_268, Q_NB268_270, Q_NB271_268, Q_NB268_271, Q_NB270_269, Q_NB269_270, Q_NB271_269, Q_NB269_271, Q_NB271_270, Q_NB270_271, Q_BK268, Q_GW268, Q_GE268, Q_NB254_268, Q_NB268_254, Q_NB255_268, Q_NB268_255, Q_NB256_268, Q_NB268_256, Q_BK269, Q_GW269, Q_GE269, Q_NB254_269, Q_NB269_254, Q_NB255_269, Q_NB269_255, Q_NB256_269, Q_NB269_256, Q_BK270, Q_GW270, Q_GE270, Q_NB254_270, Q_NB270_254, Q_NB255_270, Q_NB270_255, Q_NB256_270, Q_NB270_256, Q_BK271, Q_GW271, Q_GE271, Q_NB254_271, Q_NB271_254, Q_NB255_271, Q_NB271_255, Q_NB256_271, Q_NB271_256, fun h0_ => absurd ((hoff 40 (by kernel_rfl)).symm.trans h0_) (by decide), fun h0_ => absurd ((hoff 41 (by kernel_rfl)).symm.trans h0_) (by decide), fun h0_ => absurd ((hoff 42 (by kernel_rfl)).symm.trans h0_) (by decide), fun h0_ => absurd ((hoff 43 (by kernel_rfl)).symm.trans h0_) (by decide), Q_X36_, Q_X37_, Q_X38_, Q_X39_⟩
          refine steps_cons ?_ ?_
          · rintro b a w' ⟨gb268, gb269, gb270, gb271, m36_, m37_, m38_, m39_, ha, Q_BK254, Q_BK255, Q_BK256, Q_HB, Q_NB269_268, Q_NB268_269, Q_NB270_268, Q_NB268_270, Q_NB271_268, Q_NB268_271, Q_NB270_269, Q_NB269_270, Q_NB271_269, Q_NB269_271, Q_NB271_270, Q_NB270_271, Q_BK268, Q_GW268, Q_GE268, Q_NB254_268, Q_NB268_254, Q_NB255_268, Q_NB268_255, Q_NB256_268, Q_NB268_256, Q_BK269, Q_GW269, Q_GE269, Q_NB254_269, Q_NB269_254, Q_NB255_269, Q_NB269_255, Q_NB256_269, Q_NB269_256, Q_BK270, Q_GW270, Q_GE270, Q_NB254_270, Q_NB270_254, Q_NB255_270, Q_NB270_255, Q_NB256_270, Q_NB270_256, Q_BK271, Q_GW271, Q_GE271, Q_NB254_271, Q_NB271_254, Q_NB255_271, Q_NB271_255, Q_NB256_271, Q_NB271_256, Q_BK268_e40, Q_BK269_e41, Q_BK270_e42, Q_BK271_e43, Q_X36_, Q_X37_, Q_X38_, Q_X39_⟩ hb_ hon hoff
            refine ⟨_, rfl, fun K hK => ?_⟩
            have e32 : a.tmps[32]? = some (.func (.func 46) #[] #[.pointer (some ⟨gb254, 0, none⟩)]) := by rw [ha]; exact (putSel_off rfl).trans rfl
            have e34 : a.tmps[34]? = some (.int .i64 a1_0) := by rw [ha]; exact putSel_on (e := (2, 34, .int .i64 a1_0)) 0 rfl rfl (hon 2 (by kernel_rfl)) rfl
            have e36 : a.tmps[36]? = some (.int .i64 a1_1) := by rw [ha]; exact putSel_on (e := (4, 36, .int .i64 a1_1)) 1 rfl rfl (hon 4 (by kernel_rfl)) rfl
            replace ha := Aside0.mk ha
            have BK254 := Aside0.mk Q_BK254
            have BK255 := Aside0.mk Q_BK255
            have BK256 := Aside0.mk Q_BK256
            have HB := Aside0.mk Q_HB
            refine goesC_ #[.pointer (some ⟨gb254, 0, none⟩)] Try.func46 (by kernel_rfl) rfl #[.int .i64 a1_0, .int .i64 a1_1] #[.int .i64 a1_0, .int .i64 a1_1, .pointer (some ⟨gb254, 0, none⟩)] (by rfl) rfl rfl (by simp only [Act.eval, Array.getD_eq_getD_getElem?, Option.getD_some, e32, e34, e36]) (by first | (simp only [List.map_toArray, List.map_cons, List.map_nil, Act.eval, Array.getD_eq_getD_getElem?, Option.getD_some, e32, e34, e36]; done) | (simp only [List.map_toArray, List.map_cons, List.map_nil, Act.eval, Array.getD_eq_getD_getElem?, Option.getD_some, e32, e34, e36]; rfl)) (by rfl) ?_
            with_reducible refine (affine_Box_1.calls kj26 a1_0 a1_1 a0_0 a0_1 a0_2 a0_3 a0_4 a0_5 t260 t261 _ gb254 (by (with_reducible repeat (first | refine bN_ ?_ _ | refine bD_ ?_ | refine bA_ ?_ _)); exact BK254.out) A36.out).mono ?_
            rintro e w58 ⟨rfl, hb⟩
            refine ⟨_, rfl, ?_⟩
            have n0_ := Aside0.mk (blk_below (g := gb254) (o := .cells #[.int .i64 a0_0, .int .i64 a0_1, .int .i64 a0_2, .int .i64 a0_3, .int .i64 a0_4, .int .i64 a0_5] 23 (0, 0)) (by (with_reducible repeat (first | refine bN_ ?_ _ | refine bD_ ?_ | refine bA_ ?_ _)); exact BK254.out) hb)
            have n1_ := Aside0.mk (blk_below (g := gb255) (o := .cells #[.int .i64 a1_0, .int .i64 a1_1, .int .i64 a1_2, .int .i64 a1_3] 44 (0, 0)) (by (with_reducible repeat (first | refine bN_ ?_ _ | refine bD_ ?_ | refine bA_ ?_ _)); exact BK255.out) hb)
            have n2_ := Aside0.mk (blk_below (g := gb256) (o := .cells #[.int .i64 x257000_26, .int .i64 x257001_26, .int .i64 x257002_26, .int .i64 x257003_26] 44 (0, 0)) (by (with_reducible repeat (first | refine bN_ ?_ _ | refine bD_ ?_ | refine bA_ ?_ _)); exact BK256.out) hb)
            have n3_ := Aside0.mk (below_step (by repeat (first | (with_reducible first | exact HB.out | apply lA_ | apply lN_ | apply lD_ | refine lS_ ?_ GE254.out | refine lS_ ?_ GE255.out | refine lS_ ?_ GE256.out) | exact HB.out)) hb)
            have z_BK268 := fun (h0_ : b 36 = true) (h1_ : b 40 = false) => (show w58.heap[gb268]? = some (.cells #[.int .i64 0, .int .i64 0] 25 (0, 0)) from by first | exact (blk_below (g := gb268) (o := .cells #[.int .i64 0, .int .i64 0] 25 (0, 0)) (by (with_reducible repeat (first | refine bN_ ?_ _ | refine bD_ ?_ | refine bA_ ?_ _)); exact (Q_BK268 h0_ h1_)) hb))
            have z_BK269 := fun (h0_ : b 37 = true) (h1_ : b 41 = false) => (show w58.heap[gb269]? = some (.cells #[.int .i64 0, .int .i64 0] 25 (0, 0)) from by first | exact (blk_below (g := gb269) (o := .cells #[.int .i64 0, .int .i64 0] 25 (0, 0)) (by (with_reducible repeat (first | refine bN_ ?_ _ | refine bD_ ?_ | refine bA_ ?_ _)); exact (Q_BK269 h0_ h1_)) hb))
            have z_BK270 := fun (h0_ : b 38 = true) (h1_ : b 42 = false) => (show w58.heap[gb270]? = some (.cells #[.int .i64 0, .int .i64 0] 25 (0, 0)) from by first | exact (blk_below (g := gb270) (o := .cells #[.int .i64 0, .int .i64 0] 25 (0, 0)) (by (with_reducible repeat (first | refine bN_ ?_ _ | refine bD_ ?_ | refine bA_ ?_ _)); exact (Q_BK270 h0_ h1_)) hb))
            have z_BK271 := fun (h0_ : b 39 = true) (h1_ : b 43 = false) => (show w58.heap[gb271]? = some (.cells #[.int .i64 0, .int .i64 0] 25 (0, 0)) from by first | exact (blk_below (g := gb271) (o := .cells #[.int .i64 0, .int .i64 0] 25 (0, 0)) (by (with_reducible repeat (first | refine bN_ ?_ _ | refine bD_ ?_ | refine bA_ ?_ _)); exact (Q_BK271 h0_ h1_)) hb))
            clear BK254 BK255 BK256 HB
            have BK254 := n0_; have BK255 := n1_; have BK256 := n2_; have HB := n3_
            clear n0_ n1_ n2_ n3_
            (try clear hb)
            (try clear hb2)
            (try clear hk)
            (try clear hi)
            refine hK.out _ _ ⟨gb268, gb269, gb270, gb271, m36_, m37_, m38_, m39_, (by rw [ha.out]; exact putSel_upk 2 hb_ rfl rfl rfl), (by (with_reducible repeat (first | refine bN_ ?_ _ | refine bD_ ?_ | refine bA_ ?_ _)); exact BK254.out), (by (with_reducible repeat (first | refine bN_ ?_ _ | refine bD_ ?_ | refine bA_ ?_ _)); exact BK255.out), (by (with_reducible repeat (first | refine bN_ ?_ _ | refine bD_ ?_ | refine bA_ ?_ _)); exact BK256.out), (by repeat (first | (with_reducible first | exact HB.out | apply lA_ | apply lN_ | apply lD_ | refine lS_ ?_ GE254.out | refine lS_ ?_ GE255.out | refine lS_ ?_ GE256.out) | exact HB.out)), Q_NB269_268, Q_NB268_269, Q_NB270_268, Q_NB268_270, Q_NB271_268, Q_NB268_271, Q_NB270_269, Q_NB269_270, Q_NB271_269, Q_NB269_271, Q_NB271_270, Q_NB270_271, z_BK268, Q_GW268, Q_GE268, Q_NB254_268, Q_NB268_254, Q_NB255_268, Q_NB268_255, Q_NB256_268, Q_NB268_256, z_BK269, Q_GW269, Q_GE269, Q_NB254_269, Q_NB269_254, Q_NB255_269, Q_NB269_255, Q_NB256_269, Q_NB269_256, z_BK270, Q_GW270, Q_GE270, Q_NB254_270, Q_NB270_254, Q_NB255_270, Q_NB270_255, Q_NB256_270, Q_NB270_256, z_BK271, Q_GW271, Q_GE271, Q_NB254_271, Q_NB271_254, Q_NB255_271, Q_NB271_255, Q_NB256_271, Q_NB271_256, fun h0_ => absurd ((hoff 40 (by kernel_rfl)).symm.trans h0_) (by decide), fun h0_ => absurd ((hoff 41 (by kernel_rfl)).symm.trans h0_) (by decide), fun h0_ => absurd ((hoff 42 (by kernel_rfl)).symm.trans h0_) (by decide), fun h0_ => absurd ((hoff 43 (by kernel_rfl)).symm.trans h0_) (by decide), Q_X36_, Q_X37_, Q_X38_, Q_X39_⟩
          refine steps_cons ?_ ?_
          · rintro b a w' ⟨gb268, gb269, gb270, gb271, m36_, m37_, m38_, m39_, ha, Q_BK254, Q_BK255, Q_BK256, Q_HB, Q_NB269_268, Q_NB268_269, Q_NB270_268, Q_NB268_270, Q_NB271_268, Q_NB268_271, Q_NB270_269, Q_NB269_270, Q_NB271_269, Q_NB269_271, Q_NB271_270, Q_NB270_271, Q_BK268, Q_GW268, Q_GE268, Q_NB254_268, Q_NB268_254, Q_NB255_268, Q_NB268_255, Q_NB256_268, Q_NB268_256, Q_BK269, Q_GW269, Q_GE269, Q_NB254_269, Q_NB269_254, Q_NB255_269, Q_NB269_255, Q_NB256_269, Q_NB269_256, Q_BK270, Q_GW270, Q_GE270, Q_NB254_270, Q_NB270_254, Q_NB255_270, Q_NB270_255, Q_NB256_270, Q_NB270_256, Q_BK271, Q_GW271, Q_GE271, Q_NB254_271, Q_NB271_254, Q_NB255_271, Q_NB271_255, Q_NB256_271, Q_NB271_256, Q_BK268_e40, Q_BK269_e41, Q_BK270_e42, Q_BK271_e43, Q_X36_, Q_X37_, Q_X38_, Q_X39_⟩ hb_ hon hoff
            refine ⟨_, rfl, fun K hK => ?_⟩
            have e39 : a.tmps[39]? = some (.pointer (some ⟨gb255, 0, none⟩)) := by rw [ha]; exact (putSel_off rfl).trans rfl
            replace ha := Aside0.mk ha
            have BK254 := Aside0.mk Q_BK254
            have BK255 := Aside0.mk Q_BK255
            have BK256 := Aside0.mk Q_BK256
            have HB := Aside0.mk Q_HB
            have hc0_ : w'.cell? ⟨gb255, 0, none⟩ = some (.int .i64 a1_0) := (blk_cell BK255.out 0).trans rfl
            have hc1_ : w'.cell? ⟨gb255, 1, none⟩ = some (.int .i64 a1_1) := (blk_cell BK255.out 1).trans rfl
            have hc2_ : w'.cell? ⟨gb255, 2, none⟩ = some (.int .i64 a1_2) := (blk_cell BK255.out 2).trans rfl
            have hc3_ : w'.cell? ⟨gb255, 3, none⟩ = some (.int .i64 a1_3) := (blk_cell BK255.out 3).trans rfl
            refine value_ (w1 := w') (v := .int .i64 a1_0) (by rfl) rfl ?_ ?_
            · go_simp
              (try simp only [i64_w])
              try rfl
            refine hK.out _ _ ⟨gb268, gb269, gb270, gb271, m36_, m37_, m38_, m39_, (by rw [ha.out]; exact putSel_upk 3 hb_ rfl rfl rfl), Q_BK254, Q_BK255, Q_BK256, Q_HB, Q_NB269_268, Q_NB268_269, Q_NB270_268, Q_NB268_270, Q_NB271_268, Q_NB268_271, Q_NB270_269, Q_NB269_270, Q_NB271_269, Q_NB269_271, Q_NB271_270, Q_NB270_271, Q_BK268, Q_GW268, Q_GE268, Q_NB254_268, Q_NB268_254, Q_NB255_268, Q_NB268_255, Q_NB256_268, Q_NB268_256, Q_BK269, Q_GW269, Q_GE269, Q_NB254_269, Q_NB269_254, Q_NB255_269, Q_NB269_255, Q_NB256_269, Q_NB269_256, Q_BK270, Q_GW270, Q_GE270, Q_NB254_270, Q_NB270_254, Q_NB255_270, Q_NB270_255, Q_NB256_270, Q_NB270_256, Q_BK271, Q_GW271, Q_GE271, Q_NB254_271, Q_NB271_254, Q_NB255_271, Q_NB271_255, Q_NB256_271, Q_NB271_256, fun h0_ => absurd ((hoff 40 (by kernel_rfl)).symm.trans h0_) (by decide), fun h0_ => absurd ((hoff 41 (by kernel_rfl)).symm.trans h0_) (by decide), fun h0_ => absurd ((hoff 42 (by kernel_rfl)).symm.trans h0_) (by decide), fun h0_ => absurd ((hoff 43 (by kernel_rfl)).symm.trans h0_) (by decide), Q_X36_, Q_X37_, Q_X38_, Q_X39_⟩
          refine steps_cons ?_ ?_
          · rintro b a w' ⟨gb268, gb269, gb270, gb271, m36_, m37_, m38_, m39_, ha, Q_BK254, Q_BK255, Q_BK256, Q_HB, Q_NB269_268, Q_NB268_269, Q_NB270_268, Q_NB268_270, Q_NB271_268, Q_NB268_271, Q_NB270_269, Q_NB269_270, Q_NB271_269, Q_NB269_271, Q_NB271_270, Q_NB270_271, Q_BK268, Q_GW268, Q_GE268, Q_NB254_268, Q_NB268_254, Q_NB255_268, Q_NB268_255, Q_NB256_268, Q_NB268_256, Q_BK269, Q_GW269, Q_GE269, Q_NB254_269, Q_NB269_254, Q_NB255_269, Q_NB269_255, Q_NB256_269, Q_NB269_256, Q_BK270, Q_GW270, Q_GE270, Q_NB254_270, Q_NB270_254, Q_NB255_270, Q_NB270_255, Q_NB256_270, Q_NB270_256, Q_BK271, Q_GW271, Q_GE271, Q_NB254_271, Q_NB271_254, Q_NB255_271, Q_NB271_255, Q_NB256_271, Q_NB271_256, Q_BK268_e40, Q_BK269_e41, Q_BK270_e42, Q_BK271_e43, Q_X36_, Q_X37_, Q_X38_, Q_X39_⟩ hb_ hon hoff
            refine ⟨_, rfl, fun K hK => ?_⟩
            have e41 : a.tmps[41]? = some (.pointer (some ⟨gb255, 2, none⟩)) := by rw [ha]; exact (putSel_off rfl).trans rfl
            replace ha := Aside0.mk ha
            have BK254 := Aside0.mk Q_BK254
            have BK255 := Aside0.mk Q_BK255
            have BK256 := Aside0.mk Q_BK256
            have HB := Aside0.mk Q_HB
            have hc0_ : w'.cell? ⟨gb255, 0, none⟩ = some (.int .i64 a1_0) := (blk_cell BK255.out 0).trans rfl
            have hc1_ : w'.cell? ⟨gb255, 1, none⟩ = some (.int .i64 a1_1) := (blk_cell BK255.out 1).trans rfl
            have hc2_ : w'.cell? ⟨gb255, 2, none⟩ = some (.int .i64 a1_2) := (blk_cell BK255.out 2).trans rfl
            have hc3_ : w'.cell? ⟨gb255, 3, none⟩ = some (.int .i64 a1_3) := (blk_cell BK255.out 3).trans rfl
            refine value_ (w1 := w') (v := .int .i64 a1_2) (by rfl) rfl ?_ ?_
            · go_simp
              (try simp only [i64_w])
              try rfl
            refine hK.out _ _ ⟨gb268, gb269, gb270, gb271, m36_, m37_, m38_, m39_, (by rw [ha.out]; exact putSel_upk 4 hb_ rfl rfl rfl), Q_BK254, Q_BK255, Q_BK256, Q_HB, Q_NB269_268, Q_NB268_269, Q_NB270_268, Q_NB268_270, Q_NB271_268, Q_NB268_271, Q_NB270_269, Q_NB269_270, Q_NB271_269, Q_NB269_271, Q_NB271_270, Q_NB270_271, Q_BK268, Q_GW268, Q_GE268, Q_NB254_268, Q_NB268_254, Q_NB255_268, Q_NB268_255, Q_NB256_268, Q_NB268_256, Q_BK269, Q_GW269, Q_GE269, Q_NB254_269, Q_NB269_254, Q_NB255_269, Q_NB269_255, Q_NB256_269, Q_NB269_256, Q_BK270, Q_GW270, Q_GE270, Q_NB254_270, Q_NB270_254, Q_NB255_270, Q_NB270_255, Q_NB256_270, Q_NB270_256, Q_BK271, Q_GW271, Q_GE271, Q_NB254_271, Q_NB271_254, Q_NB255_271, Q_NB271_255, Q_NB256_271, Q_NB271_256, fun h0_ => absurd ((hoff 40 (by kernel_rfl)).symm.trans h0_) (by decide), fun h0_ => absurd ((hoff 41 (by kernel_rfl)).symm.trans h0_) (by decide), fun h0_ => absurd ((hoff 42 (by kernel_rfl)).symm.trans h0_) (by decide), fun h0_ => absurd ((hoff 43 (by kernel_rfl)).symm.trans h0_) (by decide), Q_X36_, Q_X37_, Q_X38_, Q_X39_⟩
          refine steps_cons ?_ ?_
          · rintro b a w' ⟨gb268, gb269, gb270, gb271, m36_, m37_, m38_, m39_, ha, Q_BK254, Q_BK255, Q_BK256, Q_HB, Q_NB269_268, Q_NB268_269, Q_NB270_268, Q_NB268_270, Q_NB271_268, Q_NB268_271, Q_NB270_269, Q_NB269_270, Q_NB271_269, Q_NB269_271, Q_NB271_270, Q_NB270_271, Q_BK268, Q_GW268, Q_GE268, Q_NB254_268, Q_NB268_254, Q_NB255_268, Q_NB268_255, Q_NB256_268, Q_NB268_256, Q_BK269, Q_GW269, Q_GE269, Q_NB254_269, Q_NB269_254, Q_NB255_269, Q_NB269_255, Q_NB256_269, Q_NB269_256, Q_BK270, Q_GW270, Q_GE270, Q_NB254_270, Q_NB270_254, Q_NB255_270, Q_NB270_255, Q_NB256_270, Q_NB270_256, Q_BK271, Q_GW271, Q_GE271, Q_NB254_271, Q_NB271_254, Q_NB255_271, Q_NB271_255, Q_NB256_271, Q_NB271_256, Q_BK268_e40, Q_BK269_e41, Q_BK270_e42, Q_BK271_e43, Q_X36_, Q_X37_, Q_X38_, Q_X39_⟩ hb_ hon hoff
            refine ⟨_, rfl, fun K hK => ?_⟩
            have e40 : a.tmps[40]? = some (.int .i64 a1_0) := by rw [ha]; exact putSel_on (e := (8, 40, .int .i64 a1_0)) 3 rfl rfl (hon 8 (by kernel_rfl)) rfl
            have e42 : a.tmps[42]? = some (.int .i64 a1_2) := by rw [ha]; exact putSel_on (e := (10, 42, .int .i64 a1_2)) 4 rfl rfl (hon 10 (by kernel_rfl)) rfl
            replace ha := Aside0.mk ha
            have BK254 := Aside0.mk Q_BK254
            have BK255 := Aside0.mk Q_BK255
            have BK256 := Aside0.mk Q_BK256
            have HB := Aside0.mk Q_HB
            refine value_ (w1 := w') (v := .int .i64 (wrap64 (a1_0 + a1_2))) (by rfl) rfl ?_ ?_
            · go_simp
              (try simp only [i64_w])
              try rfl
            refine hK.out _ _ ⟨gb268, gb269, gb270, gb271, m36_, m37_, m38_, m39_, (by rw [ha.out]; exact putSel_upk 5 hb_ rfl rfl rfl), Q_BK254, Q_BK255, Q_BK256, Q_HB, Q_NB269_268, Q_NB268_269, Q_NB270_268, Q_NB268_270, Q_NB271_268, Q_NB268_271, Q_NB270_269, Q_NB269_270, Q_NB271_269, Q_NB269_271, Q_NB271_270, Q_NB270_271, Q_BK268, Q_GW268, Q_GE268, Q_NB254_268, Q_NB268_254, Q_NB255_268, Q_NB268_255, Q_NB256_268, Q_NB268_256, Q_BK269, Q_GW269, Q_GE269, Q_NB254_269, Q_NB269_254, Q_NB255_269, Q_NB269_255, Q_NB256_269, Q_NB269_256, Q_BK270, Q_GW270, Q_GE270, Q_NB254_270, Q_NB270_254, Q_NB255_270, Q_NB270_255, Q_NB256_270, Q_NB270_256, Q_BK271, Q_GW271, Q_GE271, Q_NB254_271, Q_NB271_254, Q_NB255_271, Q_NB271_255, Q_NB256_271, Q_NB271_256, fun h0_ => absurd ((hoff 40 (by kernel_rfl)).symm.trans h0_) (by decide), fun h0_ => absurd ((hoff 41 (by kernel_rfl)).symm.trans h0_) (by decide), fun h0_ => absurd ((hoff 42 (by kernel_rfl)).symm.trans h0_) (by decide), fun h0_ => absurd ((hoff 43 (by kernel_rfl)).symm.trans h0_) (by decide), Q_X36_, Q_X37_, Q_X38_, Q_X39_⟩
          refine steps_cons ?_ ?_
          · rintro b a w' ⟨gb268, gb269, gb270, gb271, m36_, m37_, m38_, m39_, ha, Q_BK254, Q_BK255, Q_BK256, Q_HB, Q_NB269_268, Q_NB268_269, Q_NB270_268, Q_NB268_270, Q_NB271_268, Q_NB268_271, Q_NB270_269, Q_NB269_270, Q_NB271_269, Q_NB269_271, Q_NB271_270, Q_NB270_271, Q_BK268, Q_GW268, Q_GE268, Q_NB254_268, Q_NB268_254, Q_NB255_268, Q_NB268_255, Q_NB256_268, Q_NB268_256, Q_BK269, Q_GW269, Q_GE269, Q_NB254_269, Q_NB269_254, Q_NB255_269, Q_NB269_255, Q_NB256_269, Q_NB269_256, Q_BK270, Q_GW270, Q_GE270, Q_NB254_270, Q_NB270_254, Q_NB255_270, Q_NB270_255, Q_NB256_270, Q_NB270_256, Q_BK271, Q_GW271, Q_GE271, Q_NB254_271, Q_NB271_254, Q_NB255_271, Q_NB271_255, Q_NB256_271, Q_NB271_256, Q_BK268_e40, Q_BK269_e41, Q_BK270_e42, Q_BK271_e43, Q_X36_, Q_X37_, Q_X38_, Q_X39_⟩ hb_ hon hoff
            refine ⟨_, rfl, fun K hK => ?_⟩
            have e44 : a.tmps[44]? = some (.pointer (some ⟨gb255, 1, none⟩)) := by rw [ha]; exact (putSel_off rfl).trans rfl
            replace ha := Aside0.mk ha
            have BK254 := Aside0.mk Q_BK254
            have BK255 := Aside0.mk Q_BK255
            have BK256 := Aside0.mk Q_BK256
            have HB := Aside0.mk Q_HB
            have hc0_ : w'.cell? ⟨gb255, 0, none⟩ = some (.int .i64 a1_0) := (blk_cell BK255.out 0).trans rfl
            have hc1_ : w'.cell? ⟨gb255, 1, none⟩ = some (.int .i64 a1_1) := (blk_cell BK255.out 1).trans rfl
            have hc2_ : w'.cell? ⟨gb255, 2, none⟩ = some (.int .i64 a1_2) := (blk_cell BK255.out 2).trans rfl
            have hc3_ : w'.cell? ⟨gb255, 3, none⟩ = some (.int .i64 a1_3) := (blk_cell BK255.out 3).trans rfl
            refine value_ (w1 := w') (v := .int .i64 a1_1) (by rfl) rfl ?_ ?_
            · go_simp
              (try simp only [i64_w])
              try rfl
            refine hK.out _ _ ⟨gb268, gb269, gb270, gb271, m36_, m37_, m38_, m39_, (by rw [ha.out]; exact putSel_upk 6 hb_ rfl rfl rfl), Q_BK254, Q_BK255, Q_BK256, Q_HB, Q_NB269_268, Q_NB268_269, Q_NB270_268, Q_NB268_270, Q_NB271_268, Q_NB268_271, Q_NB270_269, Q_NB269_270, Q_NB271_269, Q_NB269_271, Q_NB271_270, Q_NB270_271, Q_BK268, Q_GW268, Q_GE268, Q_NB254_268, Q_NB268_254, Q_NB255_268, Q_NB268_255, Q_NB256_268, Q_NB268_256, Q_BK269, Q_GW269, Q_GE269, Q_NB254_269, Q_NB269_254, Q_NB255_269, Q_NB269_255, Q_NB256_269, Q_NB269_256, Q_BK270, Q_GW270, Q_GE270, Q_NB254_270, Q_NB270_254, Q_NB255_270, Q_NB270_255, Q_NB256_270, Q_NB270_256, Q_BK271, Q_GW271, Q_GE271, Q_NB254_271, Q_NB271_254, Q_NB255_271, Q_NB271_255, Q_NB256_271, Q_NB271_256, fun h0_ => absurd ((hoff 40 (by kernel_rfl)).symm.trans h0_) (by decide), fun h0_ => absurd ((hoff 41 (by kernel_rfl)).symm.trans h0_) (by decide), fun h0_ => absurd ((hoff 42 (by kernel_rfl)).symm.trans h0_) (by decide), fun h0_ => absurd ((hoff 43 (by kernel_rfl)).symm.trans h0_) (by decide), Q_X36_, Q_X37_, Q_X38_, Q_X39_⟩
          refine steps_cons ?_ ?_
          · rintro b a w' ⟨gb268, gb269, gb270, gb271, m36_, m37_, m38_, m39_, ha, Q_BK254, Q_BK255, Q_BK256, Q_HB, Q_NB269_268, Q_NB268_269, Q_NB270_268, Q_NB268_270, Q_NB271_268, Q_NB268_271, Q_NB270_269, Q_NB269_270, Q_NB271_269, Q_NB269_271, Q_NB271_270, Q_NB270_271, Q_BK268, Q_GW268, Q_GE268, Q_NB254_268, Q_NB268_254, Q_NB255_268, Q_NB268_255, Q_NB256_268, Q_NB268_256, Q_BK269, Q_GW269, Q_GE269, Q_NB254_269, Q_NB269_254, Q_NB255_269, Q_NB269_255, Q_NB256_269, Q_NB269_256, Q_BK270, Q_GW270, Q_GE270, Q_NB254_270, Q_NB270_254, Q_NB255_270, Q_NB270_255, Q_NB256_270, Q_NB270_256, Q_BK271, Q_GW271, Q_GE271, Q_NB254_271, Q_NB271_254, Q_NB255_271, Q_NB271_255, Q_NB256_271, Q_NB271_256, Q_BK268_e40, Q_BK269_e41, Q_BK270_e42, Q_BK271_e43, Q_X36_, Q_X37_, Q_X38_, Q_X39_⟩ hb_ hon hoff
            refine ⟨_, rfl, fun K hK => ?_⟩
            have e38 : a.tmps[38]? = some (.func (.func 46) #[] #[.pointer (some ⟨gb254, 0, none⟩)]) := by rw [ha]; exact (putSel_off rfl).trans rfl
            have e43 : a.tmps[43]? = some (.int .i64 (wrap64 (a1_0 + a1_2))) := by rw [ha]; exact putSel_on (e := (11, 43, .int .i64 (wrap64 (a1_0 + a1_2)))) 5 rfl rfl (hon 11 (by kernel_rfl)) rfl
            have e45 : a.tmps[45]? = some (.int .i64 a1_1) := by rw [ha]; exact putSel_on (e := (13, 45, .int .i64 a1_1)) 6 rfl rfl (hon 13 (by kernel_rfl)) rfl
            replace ha := Aside0.mk ha
            have BK254 := Aside0.mk Q_BK254
            have BK255 := Aside0.mk Q_BK255
            have BK256 := Aside0.mk Q_BK256
            have HB := Aside0.mk Q_HB
            refine goesC_ #[.pointer (some ⟨gb254, 0, none⟩)] Try.func46 (by kernel_rfl) rfl #[.int .i64 (wrap64 (a1_0 + a1_2)), .int .i64 a1_1] #[.int .i64 (wrap64 (a1_0 + a1_2)), .int .i64 a1_1, .pointer (some ⟨gb254, 0, none⟩)] (by rfl) rfl rfl (by simp only [Act.eval, Array.getD_eq_getD_getElem?, Option.getD_some, e38, e43, e45]) (by first | (simp only [List.map_toArray, List.map_cons, List.map_nil, Act.eval, Array.getD_eq_getD_getElem?, Option.getD_some, e38, e43, e45]; done) | (simp only [List.map_toArray, List.map_cons, List.map_nil, Act.eval, Array.getD_eq_getD_getElem?, Option.getD_some, e38, e43, e45]; rfl)) (by rfl) ?_
            with_reducible refine (affine_Box_1.calls kj26 (wrap64 (a1_0 + a1_2)) a1_1 a0_0 a0_1 a0_2 a0_3 a0_4 a0_5 t262 t263 _ gb254 (by (with_reducible repeat (first | refine bN_ ?_ _ | refine bD_ ?_ | refine bA_ ?_ _)); exact BK254.out) A37.out).mono ?_
            rintro e w60 ⟨rfl, hb⟩
            refine ⟨_, rfl, ?_⟩
            have n0_ := Aside0.mk (blk_below (g := gb254) (o := .cells #[.int .i64 a0_0, .int .i64 a0_1, .int .i64 a0_2, .int .i64 a0_3, .int .i64 a0_4, .int .i64 a0_5] 23 (0, 0)) (by (with_reducible repeat (first | refine bN_ ?_ _ | refine bD_ ?_ | refine bA_ ?_ _)); exact BK254.out) hb)
            have n1_ := Aside0.mk (blk_below (g := gb255) (o := .cells #[.int .i64 a1_0, .int .i64 a1_1, .int .i64 a1_2, .int .i64 a1_3] 44 (0, 0)) (by (with_reducible repeat (first | refine bN_ ?_ _ | refine bD_ ?_ | refine bA_ ?_ _)); exact BK255.out) hb)
            have n2_ := Aside0.mk (blk_below (g := gb256) (o := .cells #[.int .i64 x257000_26, .int .i64 x257001_26, .int .i64 x257002_26, .int .i64 x257003_26] 44 (0, 0)) (by (with_reducible repeat (first | refine bN_ ?_ _ | refine bD_ ?_ | refine bA_ ?_ _)); exact BK256.out) hb)
            have n3_ := Aside0.mk (below_step (by repeat (first | (with_reducible first | exact HB.out | apply lA_ | apply lN_ | apply lD_ | refine lS_ ?_ GE254.out | refine lS_ ?_ GE255.out | refine lS_ ?_ GE256.out) | exact HB.out)) hb)
            have z_BK268 := fun (h0_ : b 36 = true) (h1_ : b 40 = false) => (show w60.heap[gb268]? = some (.cells #[.int .i64 0, .int .i64 0] 25 (0, 0)) from by first | exact (blk_below (g := gb268) (o := .cells #[.int .i64 0, .int .i64 0] 25 (0, 0)) (by (with_reducible repeat (first | refine bN_ ?_ _ | refine bD_ ?_ | refine bA_ ?_ _)); exact (Q_BK268 h0_ h1_)) hb))
            have z_BK269 := fun (h0_ : b 37 = true) (h1_ : b 41 = false) => (show w60.heap[gb269]? = some (.cells #[.int .i64 0, .int .i64 0] 25 (0, 0)) from by first | exact (blk_below (g := gb269) (o := .cells #[.int .i64 0, .int .i64 0] 25 (0, 0)) (by (with_reducible repeat (first | refine bN_ ?_ _ | refine bD_ ?_ | refine bA_ ?_ _)); exact (Q_BK269 h0_ h1_)) hb))
            have z_BK270 := fun (h0_ : b 38 = true) (h1_ : b 42 = false) => (show w60.heap[gb270]? = some (.cells #[.int .i64 0, .int .i64 0] 25 (0, 0)) from by first | exact (blk_below (g := gb270) (o := .cells #[.int .i64 0, .int .i64 0] 25 (0, 0)) (by (with_reducible repeat (first | refine bN_ ?_ _ | refine bD_ ?_ | refine bA_ ?_ _)); exact (Q_BK270 h0_ h1_)) hb))
            have z_BK271 := fun (h0_ : b 39 = true) (h1_ : b 43 = false) => (show w60.heap[gb271]? = some (.cells #[.int .i64 0, .int .i64 0] 25 (0, 0)) from by first | exact (blk_below (g := gb271) (o := .cells #[.int .i64 0, .int .i64 0] 25 (0, 0)) (by (with_reducible repeat (first | refine bN_ ?_ _ | refine bD_ ?_ | refine bA_ ?_ _)); exact (Q_BK271 h0_ h1_)) hb))
            clear BK254 BK255 BK256 HB
            have BK254 := n0_; have BK255 := n1_; have BK256 := n2_; have HB := n3_
            clear n0_ n1_ n2_ n3_
            (try clear hb)
            (try clear hb2)
            (try clear hk)
            (try clear hi)
            refine hK.out _ _ ⟨gb268, gb269, gb270, gb271, m36_, m37_, m38_, m39_, (by rw [ha.out]; exact putSel_upk 7 hb_ rfl rfl rfl), (by (with_reducible repeat (first | refine bN_ ?_ _ | refine bD_ ?_ | refine bA_ ?_ _)); exact BK254.out), (by (with_reducible repeat (first | refine bN_ ?_ _ | refine bD_ ?_ | refine bA_ ?_ _)); exact BK255.out), (by (with_reducible repeat (first | refine bN_ ?_ _ | refine bD_ ?_ | refine bA_ ?_ _)); exact BK256.out), (by repeat (first | (with_reducible first | exact HB.out | apply lA_ | apply lN_ | apply lD_ | refine lS_ ?_ GE254.out | refine lS_ ?_ GE255.out | refine lS_ ?_ GE256.out) | exact HB.out)), Q_NB269_268, Q_NB268_269, Q_NB270_268, Q_NB268_270, Q_NB271_268, Q_NB268_271, Q_NB270_269, Q_NB269_270, Q_NB271_269, Q_NB269_271, Q_NB271_270, Q_NB270_271, z_BK268, Q_GW268, Q_GE268, Q_NB254_268, Q_NB268_254, Q_NB255_268, Q_NB268_255, Q_NB256_268, Q_NB268_256, z_BK269, Q_GW269, Q_GE269, Q_NB254_269, Q_NB269_254, Q_NB255_269, Q_NB269_255, Q_NB256_269, Q_NB269_256, z_BK270, Q_GW270, Q_GE270, Q_NB254_270, Q_NB270_254, Q_NB255_270, Q_NB270_255, Q_NB256_270, Q_NB270_256, z_BK271, Q_GW271, Q_GE271, Q_NB254_271, Q_NB271_254, Q_NB255_271, Q_NB271_255, Q_NB256_271, Q_NB271_256, fun h0_ => absurd ((hoff 40 (by kernel_rfl)).symm.trans h0_) (by decide), fun h0_ => absurd ((hoff 41 (by kernel_rfl)).symm.trans h0_) (by decide), fun h0_ => absurd ((hoff 42 (by kernel_rfl)).symm.trans h0_) (by decide), fun h0_ => absurd ((hoff 43 (by kernel_rfl)).symm.trans h0_) (by decide), Q_X36_, Q_X37_, Q_X38_, Q_X39_⟩
          refine steps_cons ?_ ?_
          · rintro b a w' ⟨gb268, gb269, gb270, gb271, m36_, m37_, m38_, m39_, ha, Q_BK254, Q_BK255, Q_BK256, Q_HB, Q_NB269_268, Q_NB268_269, Q_NB270_268, Q_NB268_270, Q_NB271_268, Q_NB268_271, Q_NB270_269, Q_NB269_270, Q_NB271_269, Q_NB269_271, Q_NB271_270, Q_NB270_271, Q_BK268, Q_GW268, Q_GE268, Q_NB254_268, Q_NB268_254, Q_NB255_268, Q_NB268_255, Q_NB256_268, Q_NB268_256, Q_BK269, Q_GW269, Q_GE269, Q_NB254_269, Q_NB269_254, Q_NB255_269, Q_NB269_255, Q_NB256_269, Q_NB269_256, Q_BK270, Q_GW270, Q_GE270, Q_NB254_270, Q_NB270_254, Q_NB255_270, Q_NB270_255, Q_NB256_270, Q_NB270_256, Q_BK271, Q_GW271, Q_GE271, Q_NB254_271, Q_NB271_254, Q_NB255_271, Q_NB271_255, Q_NB256_271, Q_NB271_256, Q_BK268_e40, Q_BK269_e41, Q_BK270_e42, Q_BK271_e43, Q_X36_, Q_X37_, Q_X38_, Q_X39_⟩ hb_ hon hoff
            refine ⟨_, rfl, fun K hK => ?_⟩
            have e48 : a.tmps[48]? = some (.pointer (some ⟨gb255, 0, none⟩)) := by rw [ha]; exact (putSel_off rfl).trans rfl
            replace ha := Aside0.mk ha
            have BK254 := Aside0.mk Q_BK254
            have BK255 := Aside0.mk Q_BK255
            have BK256 := Aside0.mk Q_BK256
            have HB := Aside0.mk Q_HB
            have hc0_ : w'.cell? ⟨gb255, 0, none⟩ = some (.int .i64 a1_0) := (blk_cell BK255.out 0).trans rfl
            have hc1_ : w'.cell? ⟨gb255, 1, none⟩ = some (.int .i64 a1_1) := (blk_cell BK255.out 1).trans rfl
            have hc2_ : w'.cell? ⟨gb255, 2, none⟩ = some (.int .i64 a1_2) := (blk_cell BK255.out 2).trans rfl
            have hc3_ : w'.cell? ⟨gb255, 3, none⟩ = some (.int .i64 a1_3) := (blk_cell BK255.out 3).trans rfl
            refine value_ (w1 := w') (v := .int .i64 a1_0) (by rfl) rfl ?_ ?_
            · go_simp
              (try simp only [i64_w])
              try rfl
            refine hK.out _ _ ⟨gb268, gb269, gb270, gb271, m36_, m37_, m38_, m39_, (by rw [ha.out]; exact putSel_upk 8 hb_ rfl rfl rfl), Q_BK254, Q_BK255, Q_BK256, Q_HB, Q_NB269_268, Q_NB268_269, Q_NB270_268, Q_NB268_270, Q_NB271_268, Q_NB268_271, Q_NB270_269, Q_NB269_270, Q_NB271_269, Q_NB269_271, Q_NB271_270, Q_NB270_271, Q_BK268, Q_GW268, Q_GE268, Q_NB254_268, Q_NB268_254, Q_NB255_268, Q_NB268_255, Q_NB256_268, Q_NB268_256, Q_BK269, Q_GW269, Q_GE269, Q_NB254_269, Q_NB269_254, Q_NB255_269, Q_NB269_255, Q_NB256_269, Q_NB269_256, Q_BK270, Q_GW270, Q_GE270, Q_NB254_270, Q_NB270_254, Q_NB255_270, Q_NB270_255, Q_NB256_270, Q_NB270_256, Q_BK271, Q_GW271, Q_GE271, Q_NB254_271, Q_NB271_254, Q_NB255_271, Q_NB271_255, Q_NB256_271, Q_NB271_256, fun h0_ => absurd ((hoff 40 (by kernel_rfl)).symm.trans h0_) (by decide), fun h0_ => absurd ((hoff 41 (by kernel_rfl)).symm.trans h0_) (by decide), fun h0_ => absurd ((hoff 42 (by kernel_rfl)).symm.trans h0_) (by decide), fun h0_ => absurd ((hoff 43 (by kernel_rfl)).symm.trans h0_) (by decide), Q_X36_, Q_X37_, Q_X38_, Q_X39_⟩
          refine steps_cons ?_ ?_
          · rintro b a w' ⟨gb268, gb269, gb270, gb271, m36_, m37_, m38_, m39_, ha, Q_BK254, Q_BK255, Q_BK256, Q_HB, Q_NB269_268, Q_NB268_269, Q_NB270_268, Q_NB268_270, Q_NB271_268, Q_NB268_271, Q_NB270_269, Q_NB269_270, Q_NB271_269, Q_NB269_271, Q_NB271_270, Q_NB270_271, Q_BK268, Q_GW268, Q_GE268, Q_NB254_268, Q_NB268_254, Q_NB255_268, Q_NB268_255, Q_NB256_268, Q_NB268_256, Q_BK269, Q_GW269, Q_GE269, Q_NB254_269, Q_NB269_254, Q_NB255_269, Q_NB269_255, Q_NB256_269, Q_NB269_256, Q_BK270, Q_GW270, Q_GE270, Q_NB254_270, Q_NB270_254, Q_NB255_270, Q_NB270_255, Q_NB256_270, Q_NB270_256, Q_BK271, Q_GW271, Q_GE271, Q_NB254_271, Q_NB271_254, Q_NB255_271, Q_NB271_255, Q_NB256_271, Q_NB271_256, Q_BK268_e40, Q_BK269_e41, Q_BK270_e42, Q_BK271_e43, Q_X36_, Q_X37_, Q_X38_, Q_X39_⟩ hb_ hon hoff
            refine ⟨_, rfl, fun K hK => ?_⟩
            have e50 : a.tmps[50]? = some (.pointer (some ⟨gb255, 1, none⟩)) := by rw [ha]; exact (putSel_off rfl).trans rfl
            replace ha := Aside0.mk ha
            have BK254 := Aside0.mk Q_BK254
            have BK255 := Aside0.mk Q_BK255
            have BK256 := Aside0.mk Q_BK256
            have HB := Aside0.mk Q_HB
            have hc0_ : w'.cell? ⟨gb255, 0, none⟩ = some (.int .i64 a1_0) := (blk_cell BK255.out 0).trans rfl
            have hc1_ : w'.cell? ⟨gb255, 1, none⟩ = some (.int .i64 a1_1) := (blk_cell BK255.out 1).trans rfl
            have hc2_ : w'.cell? ⟨gb255, 2, none⟩ = some (.int .i64 a1_2) := (blk_cell BK255.out 2).trans rfl
            have hc3_ : w'.cell? ⟨gb255, 3, none⟩ = some (.int .i64 a1_3) := (blk_cell BK255.out 3).trans rfl
            refine value_ (w1 := w') (v := .int .i64 a1_1) (by rfl) rfl ?_ ?_
            · go_simp
              (try simp only [i64_w])
              try rfl
            refine hK.out _ _ ⟨gb268, gb269, gb270, gb271, m36_, m37_, m38_, m39_, (by rw [ha.out]; exact putSel_upk 9 hb_ rfl rfl rfl), Q_BK254, Q_BK255, Q_BK256, Q_HB, Q_NB269_268, Q_NB268_269, Q_NB270_268, Q_NB268_270, Q_NB271_268, Q_NB268_271, Q_NB270_269, Q_NB269_270, Q_NB271_269, Q_NB269_271, Q_NB271_270, Q_NB270_271, Q_BK268, Q_GW268, Q_GE268, Q_NB254_268, Q_NB268_254, Q_NB255_268, Q_NB268_255, Q_NB256_268, Q_NB268_256, Q_BK269, Q_GW269, Q_GE269, Q_NB254_269, Q_NB269_254, Q_NB255_269, Q_NB269_255, Q_NB256_269, Q_NB269_256, Q_BK270, Q_GW270, Q_GE270, Q_NB254_270, Q_NB270_254, Q_NB255_270, Q_NB270_255, Q_NB256_270, Q_NB270_256, Q_BK271, Q_GW271, Q_GE271, Q_NB254_271, Q_NB271_254, Q_NB255_271, Q_NB271_255, Q_NB256_271, Q_NB271_256, fun h0_ => absurd ((hoff 40 (by kernel_rfl)).symm.trans h0_) (by decide), fun h0_ => absurd ((hoff 41 (by kernel_rfl)).symm.trans h0_) (by decide), fun h0_ => absurd ((hoff 42 (by kernel_rfl)).symm.trans h0_) (by decide), fun h0_ => absurd ((hoff 43 (by kernel_rfl)).symm.trans h0_) (by decide), Q_X36_, Q_X37_, Q_X38_, Q_X39_⟩
          refine steps_cons ?_ ?_
          · rintro b a w' ⟨gb268, gb269, gb270, gb271, m36_, m37_, m38_, m39_, ha, Q_BK254, Q_BK255, Q_BK256, Q_HB, Q_NB269_268, Q_NB268_269, Q_NB270_268, Q_NB268_270, Q_NB271_268, Q_NB268_271, Q_NB270_269, Q_NB269_270, Q_NB271_269, Q_NB269_271, Q_NB271_270, Q_NB270_271, Q_BK268, Q_GW268, Q_GE268, Q_NB254_268, Q_NB268_254, Q_NB255_268, Q_NB268_255, Q_NB256_268, Q_NB268_256, Q_BK269, Q_GW269, Q_GE269, Q_NB254_269, Q_NB269_254, Q_NB255_269, Q_NB269_255, Q_NB256_269, Q_NB269_256, Q_BK270, Q_GW270, Q_GE270, Q_NB254_270, Q_NB270_254, Q_NB255_270, Q_NB270_255, Q_NB256_270, Q_NB270_256, Q_BK271, Q_GW271, Q_GE271, Q_NB254_271, Q_NB271_254, Q_NB255_271, Q_NB271_255, Q_NB256_271, Q_NB271_256, Q_BK268_e40, Q_BK269_e41, Q_BK270_e42, Q_BK271_e43, Q_X36_, Q_X37_, Q_X38_, Q_X39_⟩ hb_ hon hoff
            refine ⟨_, rfl, fun K hK => ?_⟩
            have e52 : a.tmps[52]? = some (.pointer (some ⟨gb255, 3, none⟩)) := by rw [ha]; exact (putSel_off rfl).trans rfl
            replace ha := Aside0.mk ha
            have BK254 := Aside0.mk Q_BK254
            have BK255 := Aside0.mk Q_BK255
            have BK256 := Aside0.mk Q_BK256
            have HB := Aside0.mk Q_HB
            have hc0_ : w'.cell? ⟨gb255, 0, none⟩ = some (.int .i64 a1_0) := (blk_cell BK255.out 0).trans rfl
            have hc1_ : w'.cell? ⟨gb255, 1, none⟩ = some (.int .i64 a1_1) := (blk_cell BK255.out 1).trans rfl
            have hc2_ : w'.cell? ⟨gb255, 2, none⟩ = some (.int .i64 a1_2) := (blk_cell BK255.out 2).trans rfl
            have hc3_ : w'.cell? ⟨gb255, 3, none⟩ = some (.int .i64 a1_3) := (blk_cell BK255.out 3).trans rfl
            refine value_ (w1 := w') (v := .int .i64 a1_3) (by rfl) rfl ?_ ?_
            · go_simp
              (try simp only [i64_w])
              try rfl
            refine hK.out _ _ ⟨gb268, gb269, gb270, gb271, m36_, m37_, m38_, m39_, (by rw [ha.out]; exact putSel_upk 10 hb_ rfl rfl rfl), Q_BK254, Q_BK255, Q_BK256, Q_HB, Q_NB269_268, Q_NB268_269, Q_NB270_268, Q_NB268_270, Q_NB271_268, Q_NB268_271, Q_NB270_269, Q_NB269_270, Q_NB271_269, Q_NB269_271, Q_NB271_270, Q_NB270_271, Q_BK268, Q_GW268, Q_GE268, Q_NB254_268, Q_NB268_254, Q_NB255_268, Q_NB268_255, Q_NB256_268, Q_NB268_256, Q_BK269, Q_GW269, Q_GE269, Q_NB254_269, Q_NB269_254, Q_NB255_269, Q_NB269_255, Q_NB256_269, Q_NB269_256, Q_BK270, Q_GW270, Q_GE270, Q_NB254_270, Q_NB270_254, Q_NB255_270, Q_NB270_255, Q_NB256_270, Q_NB270_256, Q_BK271, Q_GW271, Q_GE271, Q_NB254_271, Q_NB271_254, Q_NB255_271, Q_NB271_255, Q_NB256_271, Q_NB271_256, fun h0_ => absurd ((hoff 40 (by kernel_rfl)).symm.trans h0_) (by decide), fun h0_ => absurd ((hoff 41 (by kernel_rfl)).symm.trans h0_) (by decide), fun h0_ => absurd ((hoff 42 (by kernel_rfl)).symm.trans h0_) (by decide), fun h0_ => absurd ((hoff 43 (by kernel_rfl)).symm.trans h0_) (by decide), Q_X36_, Q_X37_, Q_X38_, Q_X39_⟩
          refine steps_cons ?_ ?_
          · rintro b a w' ⟨gb268, gb269, gb270, gb271, m36_, m37_, m38_, m39_, ha, Q_BK254, Q_BK255, Q_BK256, Q_HB, Q_NB269_268, Q_NB268_269, Q_NB270_268, Q_NB268_270, Q_NB271_268, Q_NB268_271, Q_NB270_269, Q_NB269_270, Q_NB271_269, Q_NB269_271, Q_NB271_270, Q_NB270_271, Q_BK268, Q_GW268, Q_GE268, Q_NB254_268, Q_NB268_254, Q_NB255_268, Q_NB268_255, Q_NB256_268, Q_NB268_256, Q_BK269, Q_GW269, Q_GE269, Q_NB254_269, Q_NB269_254, Q_NB255_269, Q_NB269_255, Q_NB256_269, Q_NB269_256, Q_BK270, Q_GW270, Q_GE270, Q_NB254_270, Q_NB270_254, Q_NB255_270, Q_NB270_255, Q_NB256_270, Q_NB270_256, Q_BK271, Q_GW271, Q_GE271, Q_NB254_271, Q_NB271_254, Q_NB255_271, Q_NB271_255, Q_NB256_271, Q_NB271_256, Q_BK268_e40, Q_BK269_e41, Q_BK270_e42, Q_BK271_e43, Q_X36_, Q_X37_, Q_X38_, Q_X39_⟩ hb_ hon hoff
            refine ⟨_, rfl, fun K hK => ?_⟩
            have e51 : a.tmps[51]? = some (.int .i64 a1_1) := by rw [ha]; exact putSel_on (e := (19, 51, .int .i64 a1_1)) 9 rfl rfl (hon 19 (by kernel_rfl)) rfl
            have e53 : a.tmps[53]? = some (.int .i64 a1_3) := by rw [ha]; exact putSel_on (e := (21, 53, .int .i64 a1_3)) 10 rfl rfl (hon 21 (by kernel_rfl)) rfl
            replace ha := Aside0.mk ha
            have BK254 := Aside0.mk Q_BK254
            have BK255 := Aside0.mk Q_BK255
            have BK256 := Aside0.mk Q_BK256
            have HB := Aside0.mk Q_HB
            refine value_ (w1 := w') (v := .int .i64 (wrap64 (a1_1 + a1_3))) (by rfl) rfl ?_ ?_
            · go_simp
              (try simp only [i64_w])
              try rfl
            refine hK.out _ _ ⟨gb268, gb269, gb270, gb271, m36_, m37_, m38_, m39_, (by rw [ha.out]; exact putSel_upk 11 hb_ rfl rfl rfl), Q_BK254, Q_BK255, Q_BK256, Q_HB, Q_NB269_268, Q_NB268_269, Q_NB270_268, Q_NB268_270, Q_NB271_268, Q_NB268_271, Q_NB270_269, Q_NB269_270, Q_NB271_269, Q_NB269_271, Q_NB271_270, Q_NB270_271, Q_BK268, Q_GW268, Q_GE268, Q_NB254_268, Q_NB268_254, Q_NB255_268, Q_NB268_255, Q_NB256_268, Q_NB268_256, Q_BK269, Q_GW269, Q_GE269, Q_NB254_269, Q_NB269_254, Q_NB255_269, Q_NB269_255, Q_NB256_269, Q_NB269_256, Q_BK270, Q_GW270, Q_GE270, Q_NB254_270, Q_NB270_254, Q_NB255_270, Q_NB270_255, Q_NB256_270, Q_NB270_256, Q_BK271, Q_GW271, Q_GE271, Q_NB254_271, Q_NB271_254, Q_NB255_271, Q_NB271_255, Q_NB256_271, Q_NB271_256, fun h0_ => absurd ((hoff 40 (by kernel_rfl)).symm.trans h0_) (by decide), fun h0_ => absurd ((hoff 41 (by kernel_rfl)).symm.trans h0_) (by decide), fun h0_ => absurd ((hoff 42 (by kernel_rfl)).symm.trans h0_) (by decide), fun h0_ => absurd ((hoff 43 (by kernel_rfl)).symm.trans h0_) (by decide), Q_X36_, Q_X37_, Q_X38_, Q_X39_⟩
          refine steps_cons ?_ ?_
          · rintro b a w' ⟨gb268, gb269, gb270, gb271, m36_, m37_, m38_, m39_, ha, Q_BK254, Q_BK255, Q_BK256, Q_HB, Q_NB269_268, Q_NB268_269, Q_NB270_268, Q_NB268_270, Q_NB271_268, Q_NB268_271, Q_NB270_269, Q_NB269_270, Q_NB271_269, Q_NB269_271, Q_NB271_270, Q_NB270_271, Q_BK268, Q_GW268, Q_GE268, Q_NB254_268, Q_NB268_254, Q_NB255_268, Q_NB268_255, Q_NB256_268, Q_NB268_256, Q_BK269, Q_GW269, Q_GE269, Q_NB254_269, Q_NB269_254, Q_NB255_269, Q_NB269_255, Q_NB256_269, Q_NB269_256, Q_BK270, Q_GW270, Q_GE270, Q_NB254_270, Q_NB270_254, Q_NB255_270, Q_NB270_255, Q_NB256_270, Q_NB270_256, Q_BK271, Q_GW271, Q_GE271, Q_NB254_271, Q_NB271_254, Q_NB255_271, Q_NB271_255, Q_NB256_271, Q_NB271_256, Q_BK268_e40, Q_BK269_e41, Q_BK270_e42, Q_BK271_e43, Q_X36_, Q_X37_, Q_X38_, Q_X39_⟩ hb_ hon hoff
            refine ⟨_, rfl, fun K hK => ?_⟩
            have e47 : a.tmps[47]? = some (.func (.func 46) #[] #[.pointer (some ⟨gb254, 0, none⟩)]) := by rw [ha]; exact (putSel_off rfl).trans rfl
            have e49 : a.tmps[49]? = some (.int .i64 a1_0) := by rw [ha]; exact putSel_on (e := (17, 49, .int .i64 a1_0)) 8 rfl rfl (hon 17 (by kernel_rfl)) rfl
            have e54 : a.tmps[54]? = some (.int .i64 (wrap64 (a1_1 + a1_3))) := by rw [ha]; exact putSel_on (e := (22, 54, .int .i64 (wrap64 (a1_1 + a1_3)))) 11 rfl rfl (hon 22 (by kernel_rfl)) rfl
            replace ha := Aside0.mk ha
            have BK254 := Aside0.mk Q_BK254
            have BK255 := Aside0.mk Q_BK255
            have BK256 := Aside0.mk Q_BK256
            have HB := Aside0.mk Q_HB
            refine goesC_ #[.pointer (some ⟨gb254, 0, none⟩)] Try.func46 (by kernel_rfl) rfl #[.int .i64 a1_0, .int .i64 (wrap64 (a1_1 + a1_3))] #[.int .i64 a1_0, .int .i64 (wrap64 (a1_1 + a1_3)), .pointer (some ⟨gb254, 0, none⟩)] (by rfl) rfl rfl (by simp only [Act.eval, Array.getD_eq_getD_getElem?, Option.getD_some, e47, e49, e54]) (by first | (simp only [List.map_toArray, List.map_cons, List.map_nil, Act.eval, Array.getD_eq_getD_getElem?, Option.getD_some, e47, e49, e54]; done) | (simp only [List.map_toArray, List.map_cons, List.map_nil, Act.eval, Array.getD_eq_getD_getElem?, Option.getD_some, e47, e49, e54]; rfl)) (by rfl) ?_
            with_reducible refine (affine_Box_1.calls kj26 a1_0 (wrap64 (a1_1 + a1_3)) a0_0 a0_1 a0_2 a0_3 a0_4 a0_5 t264 t265 _ gb254 (by (with_reducible repeat (first | refine bN_ ?_ _ | refine bD_ ?_ | refine bA_ ?_ _)); exact BK254.out) A38.out).mono ?_
            rintro e w61 ⟨rfl, hb⟩
            refine ⟨_, rfl, ?_⟩
            have n0_ := Aside0.mk (blk_below (g := gb254) (o := .cells #[.int .i64 a0_0, .int .i64 a0_1, .int .i64 a0_2, .int .i64 a0_3, .int .i64 a0_4, .int .i64 a0_5] 23 (0, 0)) (by (with_reducible repeat (first | refine bN_ ?_ _ | refine bD_ ?_ | refine bA_ ?_ _)); exact BK254.out) hb)
            have n1_ := Aside0.mk (blk_below (g := gb255) (o := .cells #[.int .i64 a1_0, .int .i64 a1_1, .int .i64 a1_2, .int .i64 a1_3] 44 (0, 0)) (by (with_reducible repeat (first | refine bN_ ?_ _ | refine bD_ ?_ | refine bA_ ?_ _)); exact BK255.out) hb)
            have n2_ := Aside0.mk (blk_below (g := gb256) (o := .cells #[.int .i64 x257000_26, .int .i64 x257001_26, .int .i64 x257002_26, .int .i64 x257003_26] 44 (0, 0)) (by (with_reducible repeat (first | refine bN_ ?_ _ | refine bD_ ?_ | refine bA_ ?_ _)); exact BK256.out) hb)
            have n3_ := Aside0.mk (below_step (by repeat (first | (with_reducible first | exact HB.out | apply lA_ | apply lN_ | apply lD_ | refine lS_ ?_ GE254.out | refine lS_ ?_ GE255.out | refine lS_ ?_ GE256.out) | exact HB.out)) hb)
            have z_BK268 := fun (h0_ : b 36 = true) (h1_ : b 40 = false) => (show w61.heap[gb268]? = some (.cells #[.int .i64 0, .int .i64 0] 25 (0, 0)) from by first | exact (blk_below (g := gb268) (o := .cells #[.int .i64 0, .int .i64 0] 25 (0, 0)) (by (with_reducible repeat (first | refine bN_ ?_ _ | refine bD_ ?_ | refine bA_ ?_ _)); exact (Q_BK268 h0_ h1_)) hb))
            have z_BK269 := fun (h0_ : b 37 = true) (h1_ : b 41 = false) => (show w61.heap[gb269]? = some (.cells #[.int .i64 0, .int .i64 0] 25 (0, 0)) from by first | exact (blk_below (g := gb269) (o := .cells #[.int .i64 0, .int .i64 0] 25 (0, 0)) (by (with_reducible repeat (first | refine bN_ ?_ _ | refine bD_ ?_ | refine bA_ ?_ _)); exact (Q_BK269 h0_ h1_)) hb))
            have z_BK270 := fun (h0_ : b 38 = true) (h1_ : b 42 = false) => (show w61.heap[gb270]? = some (.cells #[.int .i64 0, .int .i64 0] 25 (0, 0)) from by first | exact (blk_below (g := gb270) (o := .cells #[.int .i64 0, .int .i64 0] 25 (0, 0)) (by (with_reducible repeat (first | refine bN_ ?_ _ | refine bD_ ?_ | refine bA_ ?_ _)); exact (Q_BK270 h0_ h1_)) hb))
            have z_BK271 := fun (h0_ : b 39 = true) (h1_ : b 43 = false) => (show w61.heap[gb271]? = some (.cells #[.int .i64 0, .int .i64 0] 25 (0, 0)) from by first | exact (blk_below (g := gb271) (o := .cells #[.int .i64 0, .int .i64 0] 25 (0, 0)) (by (with_reducible repeat (first | refine bN_ ?_ _ | refine bD_ ?_ | refine bA_ ?_ _)); exact (Q_BK271 h0_ h1_)) hb))
            clear BK254 BK255 BK256 HB
            have BK254 := n0_; have BK255 := n1_; have BK256 := n2_; have HB := n3_
            clear n0_ n1_ n2_ n3_
            (try clear hb)
            (try clear hb2)
            (try clear hk)
            (try clear hi)
            refine hK.out _ _ ⟨gb268, gb269, gb270, gb271, m36_, m37_, m38_, m39_, (by rw [ha.out]; exact putSel_upk 12 hb_ rfl rfl rfl), (by (with_reducible repeat (first | refine bN_ ?_ _ | refine bD_ ?_ | refine bA_ ?_ _)); exact BK254.out), (by (with_reducible repeat (first | refine bN_ ?_ _ | refine bD_ ?_ | refine bA_ ?_ _)); exact BK255.out), (by (with_reducible repeat (first | refine bN_ ?_ _ | refine bD_ ?_ | refine bA_ ?_ _)); exact BK256.out), (by repeat (first | (with_reducible first | exact HB.out | apply lA_ | apply lN_ | apply lD_ | refine lS_ ?_ GE254.out | refine lS_ ?_ GE255.out | refine lS_ ?_ GE256.out) | exact HB.out)), Q_NB269_268, Q_NB268_269, Q_NB270_268, Q_NB268_270, Q_NB271_268, Q_NB268_271, Q_NB270_269, Q_NB269_270, Q_NB271_269, Q_NB269_271, Q_NB271_270, Q_NB270_271, z_BK268, Q_GW268, Q_GE268, Q_NB254_268, Q_NB268_254, Q_NB255_268, Q_NB268_255, Q_NB256_268, Q_NB268_256, z_BK269, Q_GW269, Q_GE269, Q_NB254_269, Q_NB269_254, Q_NB255_269, Q_NB269_255, Q_NB256_269, Q_NB269_256, z_BK270, Q_GW270, Q_GE270, Q_NB254_270, Q_NB270_254, Q_NB255_270, Q_NB270_255, Q_NB256_270, Q_NB270_256, z_BK271, Q_GW271, Q_GE271, Q_NB254_271, Q_NB271_254, Q_NB255_271, Q_NB271_255, Q_NB256_271, Q_NB271_256, fun h0_ => absurd ((hoff 40 (by kernel_rfl)).symm.trans h0_) (by decide), fun h0_ => absurd ((hoff 41 (by kernel_rfl)).symm.trans h0_) (by decide), fun h0_ => absurd ((hoff 42 (by kernel_rfl)).symm.trans h0_) (by decide), fun h0_ => absurd ((hoff 43 (by kernel_rfl)).symm.trans h0_) (by decide), Q_X36_, Q_X37_, Q_X38_, Q_X39_⟩
          refine steps_cons ?_ ?_
          · rintro b a w' ⟨gb268, gb269, gb270, gb271, m36_, m37_, m38_, m39_, ha, Q_BK254, Q_BK255, Q_BK256, Q_HB, Q_NB269_268, Q_NB268_269, Q_NB270_268, Q_NB268_270, Q_NB271_268, Q_NB268_271, Q_NB270_269, Q_NB269_270, Q_NB271_269, Q_NB269_271, Q_NB271_270, Q_NB270_271, Q_BK268, Q_GW268, Q_GE268, Q_NB254_268, Q_NB268_254, Q_NB255_268, Q_NB268_255, Q_NB256_268, Q_NB268_256, Q_BK269, Q_GW269, Q_GE269, Q_NB254_269, Q_NB269_254, Q_NB255_269, Q_NB269_255, Q_NB256_269, Q_NB269_256, Q_BK270, Q_GW270, Q_GE270, Q_NB254_270, Q_NB270_254, Q_NB255_270, Q_NB270_255, Q_NB256_270, Q_NB270_256, Q_BK271, Q_GW271, Q_GE271, Q_NB254_271, Q_NB271_254, Q_NB255_271, Q_NB271_255, Q_NB256_271, Q_NB271_256, Q_BK268_e40, Q_BK269_e41, Q_BK270_e42, Q_BK271_e43, Q_X36_, Q_X37_, Q_X38_, Q_X39_⟩ hb_ hon hoff
            refine ⟨_, rfl, fun K hK => ?_⟩
            have e57 : a.tmps[57]? = some (.pointer (some ⟨gb255, 0, none⟩)) := by rw [ha]; exact (putSel_off rfl).trans rfl
            replace ha := Aside0.mk ha
            have BK254 := Aside0.mk Q_BK254
            have BK255 := Aside0.mk Q_BK255
            have BK256 := Aside0.mk Q_BK256
            have HB := Aside0.mk Q_HB
            have hc0_ : w'.cell? ⟨gb255, 0, none⟩ = some (.int .i64 a1_0) := (blk_cell BK255.out 0).trans rfl
            have hc1_ : w'.cell? ⟨gb255, 1, none⟩ = some (.int .i64 a1_1) := (blk_cell BK255.out 1).trans rfl
            have hc2_ : w'.cell? ⟨gb255, 2, none⟩ = some (.int .i64 a1_2) := (blk_cell BK255.out 2).trans rfl
            have hc3_ : w'.cell? ⟨gb255, 3, none⟩ = some (.int .i64 a1_3) := (blk_cell BK255.out 3).trans rfl
            refine value_ (w1 := w') (v := .int .i64 a1_0) (by rfl) rfl ?_ ?_
            · go_simp
              (try simp only [i64_w])
              try rfl
            refine hK.out _ _ ⟨gb268, gb269, gb270, gb271, m36_, m37_, m38_, m39_, (by rw [ha.out]; exact putSel_upk 13 hb_ rfl rfl rfl), Q_BK254, Q_BK255, Q_BK256, Q_HB, Q_NB269_268, Q_NB268_269, Q_NB270_268, Q_NB268_270, Q_NB271_268, Q_NB268_271, Q_NB270_269, Q_NB269_270, Q_NB271_269, Q_NB269_271, Q_NB271_270, Q_NB270_271, Q_BK268, Q_GW268, Q_GE268, Q_NB254_268, Q_NB268_254, Q_NB255_268, Q_NB268_255, Q_NB256_268, Q_NB268_256, Q_BK269, Q_GW269, Q_GE269, Q_NB254_269, Q_NB269_254, Q_NB255_269, Q_NB269_255, Q_NB256_269, Q_NB269_256, Q_BK270, Q_GW270, Q_GE270, Q_NB254_270, Q_NB270_254, Q_NB255_270, Q_NB270_255, Q_NB256_270, Q_NB270_256, Q_BK271, Q_GW271, Q_GE271, Q_NB254_271, Q_NB271_254, Q_NB255_271, Q_NB271_255, Q_NB256_271, Q_NB271_256, fun h0_ => absurd ((hoff 40 (by kernel_rfl)).symm.trans h0_) (by decide), fun h0_ => absurd ((hoff 41 (by kernel_rfl)).symm.trans h0_) (by decide), fun h0_ => absurd ((hoff 42 (by kernel_rfl)).symm.trans h0_) (by decide), fun h0_ => absurd ((hoff 43 (by kernel_rfl)).symm.trans h0_) (by decide), Q_X36_, Q_X37_, Q_X38_, Q_X39_⟩
          refine steps_cons ?_ ?_
          · rintro b a w' ⟨gb268, gb269, gb270, gb271, m36_, m37_, m38_, m39_, ha, Q_BK254, Q_BK255, Q_BK256, Q_HB, Q_NB269_268, Q_NB268_269, Q_NB270_268, Q_NB268_270, Q_NB271_268, Q_NB268_271, Q_NB270_269, Q_NB269_270, Q_NB271_269, Q_NB269_271, Q_NB271_270, Q_NB270_271, Q_BK268, Q_GW268, Q_GE268, Q_NB254_268, Q_NB268_254, Q_NB255_268, Q_NB268_255, Q_NB256_268, Q_NB268_256, Q_BK269, Q_GW269, Q_GE269, Q_NB254_269, Q_NB269_254, Q_NB255_269, Q_NB269_255, Q_NB256_269, Q_NB269_256, Q_BK270, Q_GW270, Q_GE270, Q_NB254_270, Q_NB270_254, Q_NB255_270, Q_NB270_255, Q_NB256_270, Q_NB270_256, Q_BK271, Q_GW271, Q_GE271, Q_NB254_271, Q_NB271_254, Q_NB255_271, Q_NB271_255, Q_NB256_271, Q_NB271_256, Q_BK268_e40, Q_BK269_e41, Q_BK270_e42, Q_BK271_e43, Q_X36_, Q_X37_, Q_X38_, Q_X39_⟩ hb_ hon hoff
            refine ⟨_, rfl, fun K hK => ?_⟩
            have e59 : a.tmps[59]? = some (.pointer (some ⟨gb255, 2, none⟩)) := by rw [ha]; exact (putSel_off rfl).trans rfl
            replace ha := Aside0.mk ha
            have BK254 := Aside0.mk Q_BK254
            have BK255 := Aside0.mk Q_BK255
            have BK256 := Aside0.mk Q_BK256
            have HB := Aside0.mk Q_HB
            have hc0_ : w'.cell? ⟨gb255, 0, none⟩ = some (.int .i64 a1_0) := (blk_cell BK255.out 0).trans rfl
            have hc1_ : w'.cell? ⟨gb255, 1, none⟩ = some (.int .i64 a1_1) := (blk_cell BK255.out 1).trans rfl
            have hc2_ : w'.cell? ⟨gb255, 2, none⟩ = some (.int .i64 a1_2) := (blk_cell BK255.out 2).trans rfl
            have hc3_ : w'.cell? ⟨gb255, 3, none⟩ = some (.int .i64 a1_3) := (blk_cell BK255.out 3).trans rfl
            refine value_ (w1 := w') (v := .int .i64 a1_2) (by rfl) rfl ?_ ?_
            · go_simp
              (try simp only [i64_w])
              try rfl
            refine hK.out _ _ ⟨gb268, gb269, gb270, gb271, m36_, m37_, m38_, m39_, (by rw [ha.out]; exact putSel_upk 14 hb_ rfl rfl rfl), Q_BK254, Q_BK255, Q_BK256, Q_HB, Q_NB269_268, Q_NB268_269, Q_NB270_268, Q_NB268_270, Q_NB271_268, Q_NB268_271, Q_NB270_269, Q_NB269_270, Q_NB271_269, Q_NB269_271, Q_NB271_270, Q_NB270_271, Q_BK268, Q_GW268, Q_GE268, Q_NB254_268, Q_NB268_254, Q_NB255_268, Q_NB268_255, Q_NB256_268, Q_NB268_256, Q_BK269, Q_GW269, Q_GE269, Q_NB254_269, Q_NB269_254, Q_NB255_269, Q_NB269_255, Q_NB256_269, Q_NB269_256, Q_BK270, Q_GW270, Q_GE270, Q_NB254_270, Q_NB270_254, Q_NB255_270, Q_NB270_255, Q_NB256_270, Q_NB270_256, Q_BK271, Q_GW271, Q_GE271, Q_NB254_271, Q_NB271_254, Q_NB255_271, Q_NB271_255, Q_NB256_271, Q_NB271_256, fun h0_ => absurd ((hoff 40 (by kernel_rfl)).symm.trans h0_) (by decide), fun h0_ => absurd ((hoff 41 (by kernel_rfl)).symm.trans h0_) (by decide), fun h0_ => absurd ((hoff 42 (by kernel_rfl)).symm.trans h0_) (by decide), fun h0_ => absurd ((hoff 43 (by kernel_rfl)).symm.trans h0_) (by decide), Q_X36_, Q_X37_, Q_X38_, Q_X39_⟩
          refine steps_cons ?_ ?_
          · rintro b a w' ⟨gb268, gb269, gb270, gb271, m36_, m37_, m38_, m39_, ha, Q_BK254, Q_BK255, Q_BK256, Q_HB, Q_NB269_268, Q_NB268_269, Q_NB270_268, Q_NB268_270, Q_NB271_268, Q_NB268_271, Q_NB270_269, Q_NB269_270, Q_NB271_269, Q_NB269_271, Q_NB271_270, Q_NB270_271, Q_BK268, Q_GW268, Q_GE268, Q_NB254_268, Q_NB268_254, Q_NB255_268, Q_NB268_255, Q_NB256_268, Q_NB268_256, Q_BK269, Q_GW269, Q_GE269, Q_NB254_269, Q_NB269_254, Q_NB255_269, Q_NB269_255, Q_NB256_269, Q_NB269_256, Q_BK270, Q_GW270, Q_GE270, Q_NB254_270, Q_NB270_254, Q_NB255_270, Q_NB270_255, Q_NB256_270, Q_NB270_256, Q_BK271, Q_GW271, Q_GE271, Q_NB254_271, Q_NB271_254, Q_NB255_271, Q_NB271_255, Q_NB256_271, Q_NB271_256, Q_BK268_e40, Q_BK269_e41, Q_BK270_e42, Q_BK271_e43, Q_X36_, Q_X37_, Q_X38_, Q_X39_⟩ hb_ hon hoff
            refine ⟨_, rfl, fun K hK => ?_⟩
            have e58 : a.tmps[58]? = some (.int .i64 a1_0) := by rw [ha]; exact putSel_on (e := (26, 58, .int .i64 a1_0)) 13 rfl rfl (hon 26 (by kernel_rfl)) rfl
            have e60 : a.tmps[60]? = some (.int .i64 a1_2) := by rw [ha]; exact putSel_on (e := (28, 60, .int .i64 a1_2)) 14 rfl rfl (hon 28 (by kernel_rfl)) rfl
            replace ha := Aside0.mk ha
            have BK254 := Aside0.mk Q_BK254
            have BK255 := Aside0.mk Q_BK255
            have BK256 := Aside0.mk Q_BK256
            have HB := Aside0.mk Q_HB
            refine value_ (w1 := w') (v := .int .i64 (wrap64 (a1_0 + a1_2))) (by rfl) rfl ?_ ?_
            · go_simp
              (try simp only [i64_w])
              try rfl
            refine hK.out _ _ ⟨gb268, gb269, gb270, gb271, m36_, m37_, m38_, m39_, (by rw [ha.out]; exact putSel_upk 15 hb_ rfl rfl rfl), Q_BK254, Q_BK255, Q_BK256, Q_HB, Q_NB269_268, Q_NB268_269, Q_NB270_268, Q_NB268_270, Q_NB271_268, Q_NB268_271, Q_NB270_269, Q_NB269_270, Q_NB271_269, Q_NB269_271, Q_NB271_270, Q_NB270_271, Q_BK268, Q_GW268, Q_GE268, Q_NB254_268, Q_NB268_254, Q_NB255_268, Q_NB268_255, Q_NB256_268, Q_NB268_256, Q_BK269, Q_GW269, Q_GE269, Q_NB254_269, Q_NB269_254, Q_NB255_269, Q_NB269_255, Q_NB256_269, Q_NB269_256, Q_BK270, Q_GW270, Q_GE270, Q_NB254_270, Q_NB270_254, Q_NB255_270, Q_NB270_255, Q_NB256_270, Q_NB270_256, Q_BK271, Q_GW271, Q_GE271, Q_NB254_271, Q_NB271_254, Q_NB255_271, Q_NB271_255, Q_NB256_271, Q_NB271_256, fun h0_ => absurd ((hoff 40 (by kernel_rfl)).symm.trans h0_) (by decide), fun h0_ => absurd ((hoff 41 (by kernel_rfl)).symm.trans h0_) (by decide), fun h0_ => absurd ((hoff 42 (by kernel_rfl)).symm.trans h0_) (by decide), fun h0_ => absurd ((hoff 43 (by kernel_rfl)).symm.trans h0_) (by decide), Q_X36_, Q_X37_, Q_X38_, Q_X39_⟩
          refine steps_cons ?_ ?_
          · rintro b a w' ⟨gb268, gb269, gb270, gb271, m36_, m37_, m38_, m39_, ha, Q_BK254, Q_BK255, Q_BK256, Q_HB, Q_NB269_268, Q_NB268_269, Q_NB270_268, Q_NB268_270, Q_NB271_268, Q_NB268_271, Q_NB270_269, Q_NB269_270, Q_NB271_269, Q_NB269_271, Q_NB271_270, Q_NB270_271, Q_BK268, Q_GW268, Q_GE268, Q_NB254_268, Q_NB268_254, Q_NB255_268, Q_NB268_255, Q_NB256_268, Q_NB268_256, Q_BK269, Q_GW269, Q_GE269, Q_NB254_269, Q_NB269_254, Q_NB255_269, Q_NB269_255, Q_NB256_269, Q_NB269_256, Q_BK270, Q_GW270, Q_GE270, Q_NB254_270, Q_NB270_254, Q_NB255_270, Q_NB270_255, Q_NB256_270, Q_NB270_256, Q_BK271, Q_GW271, Q_GE271, Q_NB254_271, Q_NB271_254, Q_NB255_271, Q_NB271_255, Q_NB256_271, Q_NB271_256, Q_BK268_e40, Q_BK269_e41, Q_BK270_e42, Q_BK271_e43, Q_X36_, Q_X37_, Q_X38_, Q_X39_⟩ hb_ hon hoff
            refine ⟨_, rfl, fun K hK => ?_⟩
            have e62 : a.tmps[62]? = some (.pointer (some ⟨gb255, 1, none⟩)) := by rw [ha]; exact (putSel_off rfl).trans rfl
            replace ha := Aside0.mk ha
            have BK254 := Aside0.mk Q_BK254
            have BK255 := Aside0.mk Q_BK255
            have BK256 := Aside0.mk Q_BK256
            have HB := Aside0.mk Q_HB
            have hc0_ : w'.cell? ⟨gb255, 0, none⟩ = some (.int .i64 a1_0) := (blk_cell BK255.out 0).trans rfl
            have hc1_ : w'.cell? ⟨gb255, 1, none⟩ = some (.int .i64 a1_1) := (blk_cell BK255.out 1).trans rfl
            have hc2_ : w'.cell? ⟨gb255, 2, none⟩ = some (.int .i64 a1_2) := (blk_cell BK255.out 2).trans rfl
            have hc3_ : w'.cell? ⟨gb255, 3, none⟩ = some (.int .i64 a1_3) := (blk_cell BK255.out 3).trans rfl
            refine value_ (w1 := w') (v := .int .i64 a1_1) (by rfl) rfl ?_ ?_
            · go_simp
              (try simp only [i64_w])
              try rfl
            refine hK.out _ _ ⟨gb268, gb269, gb270, gb271, m36_, m37_, m38_, m39_, (by rw [ha.out]; exact putSel_upk 16 hb_ rfl rfl rfl), Q_BK254, Q_BK255, Q_BK256, Q_HB, Q_NB269_268, Q_NB268_269, Q_NB270_268, Q_NB268_270, Q_NB271_268, Q_NB268_271, Q_NB270_269, Q_NB269_270, Q_NB271_269, Q_NB269_271, Q_NB271_270, Q_NB270_271, Q_BK268, Q_GW268, Q_GE268, Q_NB254_268, Q_NB268_254, Q_NB255_268, Q_NB268_255, Q_NB256_268, Q_NB268_256, Q_BK269, Q_GW269, Q_GE269, Q_NB254_269, Q_NB269_254, Q_NB255_269, Q_NB269_255, Q_NB256_269, Q_NB269_256, Q_BK270, Q_GW270, Q_GE270, Q_NB254_270, Q_NB270_254, Q_NB255_270, Q_NB270_255, Q_NB256_270, Q_NB270_256, Q_BK271, Q_GW271, Q_GE271, Q_NB254_271, Q_NB271_254, Q_NB255_271, Q_NB271_255, Q_NB256_271, Q_NB271_256, fun h0_ => absurd ((hoff 40 (by kernel_rfl)).symm.trans h0_) (by decide), fun h0_ => absurd ((hoff 41 (by kernel_rfl)).symm.trans h0_) (by decide), fun h0_ => absurd ((hoff 42 (by kernel_rfl)).symm.trans h0_) (by decide), fun h0_ => absurd ((hoff 43 (by kernel_rfl)).symm.trans h0_) (by decide), Q_X36_, Q_X37_, Q_X38_, Q_X39_⟩
          refine steps_cons ?_ ?_
          · rintro b a w' ⟨gb268, gb269, gb270, gb271, m36_, m37_, m38_, m39_, ha, Q_BK254, Q_BK255, Q_BK256, Q_HB, Q_NB269_268, Q_NB268_269, Q_NB270_268, Q_NB268_270, Q_NB271_268, Q_NB268_271, Q_NB270_269, Q_NB269_270, Q_NB271_269, Q_NB269_271, Q_NB271_270, Q_NB270_271, Q_BK268, Q_GW268, Q_GE268, Q_NB254_268, Q_NB268_254, Q_NB255_268, Q_NB268_255, Q_NB256_268, Q_NB268_256, Q_BK269, Q_GW269, Q_GE269, Q_NB254_269, Q_NB269_254, Q_NB255_269, Q_NB269_255, Q_NB256_269, Q_NB269_256, Q_BK270, Q_GW270, Q_GE270, Q_NB254_270, Q_NB270_254, Q_NB255_270, Q_NB270_255, Q_NB256_270, Q_NB270_256, Q_BK271, Q_GW271, Q_GE271, Q_NB254_271, Q_NB271_254, Q_NB255_271, Q_NB271_255, Q_NB256_271, Q_NB271_256, Q_BK268_e40, Q_BK269_e41, Q_BK270_e42, Q_BK271_e43, Q_X36_, Q_X37_, Q_X38_, Q_X39_⟩ hb_ hon hoff
            refine ⟨_, rfl, fun K hK => ?_⟩
            have e64 : a.tmps[64]? = some (.pointer (some ⟨gb255, 3, none⟩)) := by rw [ha]; exact (putSel_off rfl).trans rfl
            replace ha := Aside0.mk ha
            have BK254 := Aside0.mk Q_BK254
            have BK255 := Aside0.mk Q_BK255
            have BK256 := Aside0.mk Q_BK256
            have HB := Aside0.mk Q_HB
            have hc0_ : w'.cell? ⟨gb255, 0, none⟩ = some (.int .i64 a1_0) := (blk_cell BK255.out 0).trans rfl
            have hc1_ : w'.cell? ⟨gb255, 1, none⟩ = some (.int .i64 a1_1) := (blk_cell BK255.out 1).trans rfl
            have hc2_ : w'.cell? ⟨gb255, 2, none⟩ = some (.int .i64 a1_2) := (blk_cell BK255.out 2).trans rfl
            have hc3_ : w'.cell? ⟨gb255, 3, none⟩ = some (.int .i64 a1_3) := (blk_cell BK255.out 3).trans rfl
            refine value_ (w1 := w') (v := .int .i64 a1_3) (by rfl) rfl ?_ ?_
            · go_simp
              (try simp only [i64_w])
              try rfl
            refine hK.out _ _ ⟨gb268, gb269, gb270, gb271, m36_, m37_, m38_, m39_, (by rw [ha.out]; exact putSel_upk 17 hb_ rfl rfl rfl), Q_BK254, Q_BK255, Q_BK256, Q_HB, Q_NB269_268, Q_NB268_269, Q_NB270_268, Q_NB268_270, Q_NB271_268, Q_NB268_271, Q_NB270_269, Q_NB269_270, Q_NB271_269, Q_NB269_271, Q_NB271_270, Q_NB270_271, Q_BK268, Q_GW268, Q_GE268, Q_NB254_268, Q_NB268_254, Q_NB255_268, Q_NB268_255, Q_NB256_268, Q_NB268_256, Q_BK269, Q_GW269, Q_GE269, Q_NB254_269, Q_NB269_254, Q_NB255_269, Q_NB269_255, Q_NB256_269, Q_NB269_256, Q_BK270, Q_GW270, Q_GE270, Q_NB254_270, Q_NB270_254, Q_NB255_270, Q_NB270_255, Q_NB256_270, Q_NB270_256, Q_BK271, Q_GW271, Q_GE271, Q_NB254_271, Q_NB271_254, Q_NB255_271, Q_NB271_255, Q_NB256_271, Q_NB271_256, fun h0_ => absurd ((hoff 40 (by kernel_rfl)).symm.trans h0_) (by decide), fun h0_ => absurd ((hoff 41 (by kernel_rfl)).symm.trans h0_) (by decide), fun h0_ => absurd ((hoff 42 (by kernel_rfl)).symm.trans h0_) (by decide), fun h0_ => absurd ((hoff 43 (by kernel_rfl)).symm.trans h0_) (by decide), Q_X36_, Q_X37_, Q_X38_, Q_X39_⟩
          refine steps_cons ?_ ?_
          · rintro b a w' ⟨gb268, gb269, gb270, gb271, m36_, m37_, m38_, m39_, ha, Q_BK254, Q_BK255, Q_BK256, Q_HB, Q_NB269_268, Q_NB268_269, Q_NB270_268, Q_NB268_270, Q_NB271_268, Q_NB268_271, Q_NB270_269, Q_NB269_270, Q_NB271_269, Q_NB269_271, Q_NB271_270, Q_NB270_271, Q_BK268, Q_GW268, Q_GE268, Q_NB254_268, Q_NB268_254, Q_NB255_268, Q_NB268_255, Q_NB256_268, Q_NB268_256, Q_BK269, Q_GW269, Q_GE269, Q_NB254_269, Q_NB269_254, Q_NB255_269, Q_NB269_255, Q_NB256_269, Q_NB269_256, Q_BK270, Q_GW270, Q_GE270, Q_NB254_270, Q_NB270_254, Q_NB255_270, Q_NB270_255, Q_NB256_270, Q_NB270_256, Q_BK271, Q_GW271, Q_GE271, Q_NB254_271, Q_NB271_254, Q_NB255_271, Q_NB271_255, Q_NB256_271, Q_NB271_256, Q_BK268_e40, Q_BK269_e41, Q_BK270_e42, Q_BK271_e43, Q_X36_, Q_X37_, Q_X38_, Q_X39_⟩ hb_ hon hoff
            refine ⟨_, rfl, fun K hK => ?_⟩
            have e63 : a.tmps[63]? = some (.int .i64 a1_1) := by rw [ha]; exact putSel_on (e := (31, 63, .int .i64 a1_1)) 16 rfl rfl (hon 31 (by kernel_rfl)) rfl
            have e65 : a.tmps[65]? = some (.int .i64 a1_3) := by rw [ha]; exact putSel_on (e := (33, 65, .int .i64 a1_3)) 17 rfl rfl (hon 33 (by kernel_rfl)) rfl
            replace ha := Aside0.mk ha
            have BK254 := Aside0.mk Q_BK254
            have BK255 := Aside0.mk Q_BK255
            have BK256 := Aside0.mk Q_BK256
            have HB := Aside0.mk Q_HB
            refine value_ (w1 := w') (v := .int .i64 (wrap64 (a1_1 + a1_3))) (by rfl) rfl ?_ ?_
            · go_simp
              (try simp only [i64_w])
              try rfl
            refine hK.out _ _ ⟨gb268, gb269, gb270, gb271, m36_, m37_, m38_, m39_, (by rw [ha.out]; exact putSel_upk 18 hb_ rfl rfl rfl), Q_BK254, Q_BK255, Q_BK256, Q_HB, Q_NB269_268, Q_NB268_269, Q_NB270_268, Q_NB268_270, Q_NB271_268, Q_NB268_271, Q_NB270_269, Q_NB269_270, Q_NB271_269, Q_NB269_271, Q_NB271_270, Q_NB270_271, Q_BK268, Q_GW268, Q_GE268, Q_NB254_268, Q_NB268_254, Q_NB255_268, Q_NB268_255, Q_NB256_268, Q_NB268_256, Q_BK269, Q_GW269, Q_GE269, Q_NB254_269, Q_NB269_254, Q_NB255_269, Q_NB269_255, Q_NB256_269, Q_NB269_256, Q_BK270, Q_GW270, Q_GE270, Q_NB254_270, Q_NB270_254, Q_NB255_270, Q_NB270_255, Q_NB256_270, Q_NB270_256, Q_BK271, Q_GW271, Q_GE271, Q_NB254_271, Q_NB271_254, Q_NB255_271, Q_NB271_255, Q_NB256_271, Q_NB271_256, fun h0_ => absurd ((hoff 40 (by kernel_rfl)).symm.trans h0_) (by decide), fun h0_ => absurd ((hoff 41 (by kernel_rfl)).symm.trans h0_) (by decide), fun h0_ => absurd ((hoff 42 (by kernel_rfl)).symm.trans h0_) (by decide), fun h0_ => absurd ((hoff 43 (by kernel_rfl)).symm.trans h0_) (by decide), Q_X36_, Q_X37_, Q_X38_, Q_X39_⟩
          refine steps_cons ?_ ?_
          · rintro b a w' ⟨gb268, gb269, gb270, gb271, m36_, m37_, m38_, m39_, ha, Q_BK254, Q_BK255, Q_BK256, Q_HB, Q_NB269_268, Q_NB268_269, Q_NB270_268, Q_NB268_270, Q_NB271_268, Q_NB268_271, Q_NB270_269, Q_NB269_270, Q_NB271_269, Q_NB269_271, Q_NB271_270, Q_NB270_271, Q_BK268, Q_GW268, Q_GE268, Q_NB254_268, Q_NB268_254, Q_NB255_268, Q_NB268_255, Q_NB256_268, Q_NB268_256, Q_BK269, Q_GW269, Q_GE269, Q_NB254_269, Q_NB269_254, Q_NB255_269, Q_NB269_255, Q_NB256_269, Q_NB269_256, Q_BK270, Q_GW270, Q_GE270, Q_NB254_270, Q_NB270_254, Q_NB255_270, Q_NB270_255, Q_NB256_270, Q_NB270_256, Q_BK271, Q_GW271, Q_GE271, Q_NB254_271, Q_NB271_254, Q_NB255_271, Q_NB271_255, Q_NB256_271, Q_NB271_256, Q_BK268_e40, Q_BK269_e41, Q_BK270_e42, Q_BK271_e43, Q_X36_, Q_X37_, Q_X38_, Q_X39_⟩ hb_ hon hoff
            refine ⟨_, rfl, fun K hK => ?_⟩
            have e56 : a.tmps[56]? = some (.func (.func 46) #[] #[.pointer (some ⟨gb254, 0, none⟩)]) := by rw [ha]; exact (putSel_off rfl).trans rfl
            have e61 : a.tmps[61]? = some (.int .i64 (wrap64 (a1_0 + a1_2))) := by rw [ha]; exact putSel_on (e := (29, 61, .int .i64 (wrap64 (a1_0 + a1_2)))) 15 rfl rfl (hon 29 (by kernel_rfl)) rfl
            have e66 : a.tmps[66]? = some (.int .i64 (wrap64 (a1_1 + a1_3))) := by rw [ha]; exact putSel_on (e := (34, 66, .int .i64 (wrap64 (a1_1 + a1_3)))) 18 rfl rfl (hon 34 (by kernel_rfl)) rfl
            replace ha := Aside0.mk ha
            have BK254 := Aside0.mk Q_BK254
            have BK255 := Aside0.mk Q_BK255
            have BK256 := Aside0.mk Q_BK256
            have HB := Aside0.mk Q_HB
            refine goesC_ #[.pointer (some ⟨gb254, 0, none⟩)] Try.func46 (by kernel_rfl) rfl #[.int .i64 (wrap64 (a1_0 + a1_2)), .int .i64 (wrap64 (a1_1 + a1_3))] #[.int .i64 (wrap64 (a1_0 + a1_2)), .int .i64 (wrap64 (a1_1 + a1_3)), .pointer (some ⟨gb254, 0, none⟩)] (by rfl) rfl rfl (by simp only [Act.eval, Array.getD_eq_getD_getElem?, Option.getD_some, e56, e61, e66]) (by first | (simp only [List.map_toArray, List.map_cons, List.map_nil, Act.eval, Array.getD_eq_getD_getElem?, Option.getD_some, e56, e61, e66]; done) | (simp only [List.map_toArray, List.map_cons, List.map_nil, Act.eval, Array.getD_eq_getD_getElem?, Option.getD_some, e56, e61, e66]; rfl)) (by rfl) ?_
            with_reducible refine (affine_Box_1.calls kj26 (wrap64 (a1_0 + a1_2)) (wrap64 (a1_1 + a1_3)) a0_0 a0_1 a0_2 a0_3 a0_4 a0_5 t266 t267 _ gb254 (by (with_reducible repeat (first | refine bN_ ?_ _ | refine bD_ ?_ | refine bA_ ?_ _)); exact BK254.out) A39.out).mono ?_
            rintro e w62 ⟨rfl, hb⟩
            refine ⟨_, rfl, ?_⟩
            have n0_ := Aside0.mk (blk_below (g := gb254) (o := .cells #[.int .i64 a0_0, .int .i64 a0_1, .int .i64 a0_2, .int .i64 a0_3, .int .i64 a0_4, .int .i64 a0_5] 23 (0, 0)) (by (with_reducible repeat (first | refine bN_ ?_ _ | refine bD_ ?_ | refine bA_ ?_ _)); exact BK254.out) hb)
            have n1_ := Aside0.mk (blk_below (g := gb255) (o := .cells #[.int .i64 a1_0, .int .i64 a1_1, .int .i64 a1_2, .int .i64 a1_3] 44 (0, 0)) (by (with_reducible repeat (first | refine bN_ ?_ _ | refine bD_ ?_ | refine bA_ ?_ _)); exact BK255.out) hb)
            have n2_ := Aside0.mk (blk_below (g := gb256) (o := .cells #[.int .i64 x257000_26, .int .i64 x257001_26, .int .i64 x257002_26, .int .i64 x257003_26] 44 (0, 0)) (by (with_reducible repeat (first | refine bN_ ?_ _ | refine bD_ ?_ | refine bA_ ?_ _)); exact BK256.out) hb)
            have n3_ := Aside0.mk (below_step (by repeat (first | (with_reducible first | exact HB.out | apply lA_ | apply lN_ | apply lD_ | refine lS_ ?_ GE254.out | refine lS_ ?_ GE255.out | refine lS_ ?_ GE256.out) | exact HB.out)) hb)
            have z_BK268 := fun (h0_ : b 36 = true) (h1_ : b 40 = false) => (show w62.heap[gb268]? = some (.cells #[.int .i64 0, .int .i64 0] 25 (0, 0)) from by first | exact (blk_below (g := gb268) (o := .cells #[.int .i64 0, .int .i64 0] 25 (0, 0)) (by (with_reducible repeat (first | refine bN_ ?_ _ | refine bD_ ?_ | refine bA_ ?_ _)); exact (Q_BK268 h0_ h1_)) hb))
            have z_BK269 := fun (h0_ : b 37 = true) (h1_ : b 41 = false) => (show w62.heap[gb269]? = some (.cells #[.int .i64 0, .int .i64 0] 25 (0, 0)) from by first | exact (blk_below (g := gb269) (o := .cells #[.int .i64 0, .int .i64 0] 25 (0, 0)) (by (with_reducible repeat (first | refine bN_ ?_ _ | refine bD_ ?_ | refine bA_ ?_ _)); exact (Q_BK269 h0_ h1_)) hb))
            have z_BK270 := fun (h0_ : b 38 = true) (h1_ : b 42 = false) => (show w62.heap[gb270]? = some (.cells #[.int .i64 0, .int .i64 0] 25 (0, 0)) from by first | exact (blk_below (g := gb270) (o := .cells #[.int .i64 0, .int .i64 0] 25 (0, 0)) (by (with_reducible repeat (first | refine bN_ ?_ _ | refine bD_ ?_ | refine bA_ ?_ _)); exact (Q_BK270 h0_ h1_)) hb))
            have z_BK271 := fun (h0_ : b 39 = true) (h1_ : b 43 = false) => (show w62.heap[gb271]? = some (.cells #[.int .i64 0, .int .i64 0] 25 (0, 0)) from by first | exact (blk_below (g := gb271) (o := .cells #[.int .i64 0, .int .i64 0] 25 (0, 0)) (by (with_reducible repeat (first | refine bN_ ?_ _ | refine bD_ ?_ | refine bA_ ?_ _)); exact (Q_BK271 h0_ h1_)) hb))
            clear BK254 BK255 BK256 HB
            have BK254 := n0_; have BK255 := n1_; have BK256 := n2_; have HB := n3_
            clear n0_ n1_ n2_ n3_
            (try clear hb)
            (try clear hb2)
            (try clear hk)
            (try clear hi)
            refine hK.out _ _ ⟨gb268, gb269, gb270, gb271, m36_, m37_, m38_, m39_, (by rw [ha.out]; exact putSel_upk 19 hb_ rfl rfl rfl), (by (with_reducible repeat (first | refine bN_ ?_ _ | refine bD_ ?_ | refine bA_ ?_ _)); exact BK254.out), (by (with_reducible repeat (first | refine bN_ ?_ _ | refine bD_ ?_ | refine bA_ ?_ _)); exact BK255.out), (by (with_reducible repeat (first | refine bN_ ?_ _ | refine bD_ ?_ | refine bA_ ?_ _)); exact BK256.out), (by repeat (first | (with_reducible first | exact HB.out | apply lA_ | apply lN_ | apply lD_ | refine lS_ ?_ GE254.out | refine lS_ ?_ GE255.out | refine lS_ ?_ GE256.out) | exact HB.out)), Q_NB269_268, Q_NB268_269, Q_NB270_268, Q_NB268_270, Q_NB271_268, Q_NB268_271, Q_NB270_269, Q_NB269_270, Q_NB271_269, Q_NB269_271, Q_NB271_270, Q_NB270_271, z_BK268, Q_GW268, Q_GE268, Q_NB254_268, Q_NB268_254, Q_NB255_268, Q_NB268_255, Q_NB256_268, Q_NB268_256, z_BK269, Q_GW269, Q_GE269, Q_NB254_269, Q_NB269_254, Q_NB255_269, Q_NB269_255, Q_NB256_269, Q_NB269_256, z_BK270, Q_GW270, Q_GE270, Q_NB254_270, Q_NB270_254, Q_NB255_270, Q_NB270_255, Q_NB256_270, Q_NB270_256, z_BK271, Q_GW271, Q_GE271, Q_NB254_271, Q_NB271_254, Q_NB255_271, Q_NB271_255, Q_NB256_271, Q_NB271_256, fun h0_ => absurd ((hoff 40 (by kernel_rfl)).symm.trans h0_) (by decide), fun h0_ => absurd ((hoff 41 (by kernel_rfl)).symm.trans h0_) (by decide), fun h0_ => absurd ((hoff 42 (by kernel_rfl)).symm.trans h0_) (by decide), fun h0_ => absurd ((hoff 43 (by kernel_rfl)).symm.trans h0_) (by decide), Q_X36_, Q_X37_, Q_X38_, Q_X39_⟩
          refine steps_cons ?_ ?_
          · rintro b a w' ⟨gb268, gb269, gb270, gb271, m36_, m37_, m38_, m39_, ha, Q_BK254, Q_BK255, Q_BK256, Q_HB, Q_NB269_268, Q_NB268_269, Q_NB270_268, Q_NB268_270, Q_NB271_268, Q_NB268_271, Q_NB270_269, Q_NB269_270, Q_NB271_269, Q_NB269_271, Q_NB271_270, Q_NB270_271, Q_BK268, Q_GW268, Q_GE268, Q_NB254_268, Q_NB268_254, Q_NB255_268, Q_NB268_255, Q_NB256_268, Q_NB268_256, Q_BK269, Q_GW269, Q_GE269, Q_NB254_269, Q_NB269_254, Q_NB255_269, Q_NB269_255, Q_NB256_269, Q_NB269_256, Q_BK270, Q_GW270, Q_GE270, Q_NB254_270, Q_NB270_254, Q_NB255_270, Q_NB270_255, Q_NB256_270, Q_NB270_256, Q_BK271, Q_GW271, Q_GE271, Q_NB254_271, Q_NB271_254, Q_NB255_271, Q_NB271_255, Q_NB256_271, Q_NB271_256, Q_BK268_e40, Q_BK269_e41, Q_BK270_e42, Q_BK271_e43, Q_X36_, Q_X37_, Q_X38_, Q_X39_⟩ hb_ hon hoff
            refine ⟨_, rfl, fun K hK => ?_⟩
            replace ha := Aside0.mk ha
            have BK254 := Aside0.mk Q_BK254
            have BK255 := Aside0.mk Q_BK255
            have BK256 := Aside0.mk Q_BK256
            have HB := Aside0.mk Q_HB
            refine box_step ?hg (N := 8) ?hd (cs := #[.int .i64 0, .int .i64 0]) (t := 25) ?hr ?_; (case hd => rfl); (case hg => rfl); (case hr => first | (go_simp; done) | (go_simp; rfl))
            intro gb268 hg w58 hbox hb
            have n0_ := Aside0.mk (blk_below (g := gb254) (o := .cells #[.int .i64 a0_0, .int .i64 a0_1, .int .i64 a0_2, .int .i64 a0_3, .int .i64 a0_4, .int .i64 a0_5] 23 (0, 0)) (by (with_reducible repeat (first | refine bN_ ?_ _ | refine bD_ ?_ | refine bA_ ?_ _)); exact BK254.out) hb)
            have n1_ := Aside0.mk (blk_below (g := gb255) (o := .cells #[.int .i64 a1_0, .int .i64 a1_1, .int .i64 a1_2, .int .i64 a1_3] 44 (0, 0)) (by (with_reducible repeat (first | refine bN_ ?_ _ | refine bD_ ?_ | refine bA_ ?_ _)); exact BK255.out) hb)
            have n2_ := Aside0.mk (blk_below (g := gb256) (o := .cells #[.int .i64 x257000_26, .int .i64 x257001_26, .int .i64 x257002_26, .int .i64 x257003_26] 44 (0, 0)) (by (with_reducible repeat (first | refine bN_ ?_ _ | refine bD_ ?_ | refine bA_ ?_ _)); exact BK256.out) hb)
            have n3_ := Aside0.mk (below_step (by repeat (first | (with_reducible first | exact HB.out | apply lA_ | apply lN_ | apply lD_ | refine lS_ ?_ GE254.out | refine lS_ ?_ GE255.out | refine lS_ ?_ GE256.out) | exact HB.out)) hb)
            have n4_ := Aside0.mk (hbox)
            have n5_ := Aside0.mk ((by rw [hg]; exact (below_size (by repeat (first | (with_reducible first | exact HB.out | apply lA_ | apply lN_ | apply lD_ | refine lS_ ?_ GE254.out | refine lS_ ?_ GE255.out | refine lS_ ?_ GE256.out) | exact HB.out))) : w.heap.size ≤ gb268))
            have n6_ := Aside0.mk ((by rw [hg]; exact (below_size (by repeat (first | (with_reducible first | exact HB.out | apply lA_ | apply lN_ | apply lD_ | refine lS_ ?_ GE254.out | refine lS_ ?_ GE255.out | refine lS_ ?_ GE256.out) | exact HB.out))) : w.heap.size ≤ gb268))
            have n7_ := Aside0.mk ((by rw [hg]; exact Nat.ne_of_lt (blk_lt (g := gb254) (o := .cells #[.int .i64 a0_0, .int .i64 a0_1, .int .i64 a0_2, .int .i64 a0_3, .int .i64 a0_4, .int .i64 a0_5] 23 (0, 0)) (by (with_reducible repeat (first | refine bN_ ?_ _ | refine bD_ ?_ | refine bA_ ?_ _)); exact BK254.out)) : gb254 ≠ gb268))
            have n8_ := Aside0.mk ((by rw [hg]; exact Nat.ne_of_gt (blk_lt (g := gb254) (o := .cells #[.int .i64 a0_0, .int .i64 a0_1, .int .i64 a0_2, .int .i64 a0_3, .int .i64 a0_4, .int .i64 a0_5] 23 (0, 0)) (by (with_reducible repeat (first | refine bN_ ?_ _ | refine bD_ ?_ | refine bA_ ?_ _)); exact BK254.out)) : gb268 ≠ gb254))
            have n9_ := Aside0.mk ((by rw [hg]; exact Nat.ne_of_lt (blk_lt (g := gb255) (o := .cells #[.int .i64 a1_0, .int .i64 a1_1, .int .i64 a1_2, .int .i64 a1_3] 44 (0, 0)) (by (with_reducible repeat (first | refine bN_ ?_ _ | refine bD_ ?_ | refine bA_ ?_ _)); exact BK255.out)) : gb255 ≠ gb268))
            have n10_ := Aside0.mk ((by rw [hg]; exact Nat.ne_of_gt (blk_lt (g := gb255) (o := .cells #[.int .i64 a1_0, .int .i64 a1_1, .int .i64 a1_2, .int .i64 a1_3] 44 (0, 0)) (by (with_reducible repeat (first | refine bN_ ?_ _ | refine bD_ ?_ | refine bA_ ?_ _)); exact BK255.out)) : gb268 ≠ gb255))
            have n11_ := Aside0.mk ((by rw [hg]; exact Nat.ne_of_lt (blk_lt (g := gb256) (o := .cells #[.int .i64 x257000_26, .int .i64 x257001_26, .int .i64 x257002_26, .int .i64 x257003_26] 44 (0, 0)) (by (with_reducible repeat (first | refine bN_ ?_ _ | refine bD_ ?_ | refine bA_ ?_ _)); exact BK256.out)) : gb256 ≠ gb268))
            have n12_ := Aside0.mk ((by rw [hg]; exact Nat.ne_of_gt (blk_lt (g := gb256) (o := .cells #[.int .i64 x257000_26, .int .i64 x257001_26, .int .i64 x257002_26, .int .i64 x257003_26] 44 (0, 0)) (by (with_reducible repeat (first | refine bN_ ?_ _ | refine bD_ ?_ | refine bA_ ?_ _)); exact BK256.out)) : gb268 ≠ gb256))
            have z_NB269_268 := fun (h0_ : up b 36 36 = true) (h1_ : up b 36 37 = true) => (show gb269 ≠ gb268 from ((by rw [hg]; exact Nat.ne_of_lt (blk_lt (g := gb269) (o := .cells #[.int .i64 0, .int .i64 0] 25 (0, 0)) (by (with_reducible repeat (first | refine bN_ ?_ _ | refine bD_ ?_ | refine bA_ ?_ _)); exact (Q_BK269 h1_ (hoff 41 (by kernel_rfl))))) : gb269 ≠ gb268)))
            have z_NB268_269 := fun (h0_ : up b 36 36 = true) (h1_ : up b 36 37 = true) => (show gb268 ≠ gb269 from ((by rw [hg]; exact Nat.ne_of_gt (blk_lt (g := gb269) (o := .cells #[.int .i64 0, .int .i64 0] 25 (0, 0)) (by (with_reducible repeat (first | refine bN_ ?_ _ | refine bD_ ?_ | refine bA_ ?_ _)); exact (Q_BK269 h1_ (hoff 41 (by kernel_rfl))))) : gb268 ≠ gb269)))
            have z_NB270_268 := fun (h0_ : up b 36 36 = true) (h1_ : up b 36 38 = true) => (show gb270 ≠ gb268 from ((by rw [hg]; exact Nat.ne_of_lt (blk_lt (g := gb270) (o := .cells #[.int .i64 0, .int .i64 0] 25 (0, 0)) (by (with_reducible repeat (first | refine bN_ ?_ _ | refine bD_ ?_ | refine bA_ ?_ _)); exact (Q_BK270 h1_ (hoff 42 (by kernel_rfl))))) : gb270 ≠ gb268)))
            have z_NB268_270 := fun (h0_ : up b 36 36 = true) (h1_ : up b 36 38 = true) => (show gb268 ≠ gb270 from ((by rw [hg]; exact Nat.ne_of_gt (blk_lt (g := gb270) (o := .cells #[.int .i64 0, .int .i64 0] 25 (0, 0)) (by (with_reducible repeat (first | refine bN_ ?_ _ | refine bD_ ?_ | refine bA_ ?_ _)); exact (Q_BK270 h1_ (hoff 42 (by kernel_rfl))))) : gb268 ≠ gb270)))
            have z_NB271_268 := fun (h0_ : up b 36 36 = true) (h1_ : up b 36 39 = true) => (show gb271 ≠ gb268 from ((by rw [hg]; exact Nat.ne_of_lt (blk_lt (g := gb271) (o := .cells #[.int .i64 0, .int .i64 0] 25 (0, 0)) (by (with_reducible repeat (first | refine bN_ ?_ _ | refine bD_ ?_ | refine bA_ ?_ _)); exact (Q_BK271 h1_ (hoff 43 (by kernel_rfl))))) : gb271 ≠ gb268)))
            have z_NB268_271 := fun (h0_ : up b 36 36 = true) (h1_ : up b 36 39 = true) => (show gb268 ≠ gb271 from ((by rw [hg]; exact Nat.ne_of_gt (blk_lt (g := gb271) (o := .cells #[.int .i64 0, .int .i64 0] 25 (0, 0)) (by (with_reducible repeat (first | refine bN_ ?_ _ | refine bD_ ?_ | refine bA_ ?_ _)); exact (Q_BK271 h1_ (hoff 43 (by kernel_rfl))))) : gb268 ≠ gb271)))
            have z_BK269 := fun (h0_ : b 37 = true) (h1_ : b 41 = false) => (show w58.heap[gb269]? = some (.cells #[.int .i64 0, .int .i64 0] 25 (0, 0)) from by first | exact (blk_below (g := gb269) (o := .cells #[.int .i64 0, .int .i64 0] 25 (0, 0)) (by (with_reducible repeat (first | refine bN_ ?_ _ | refine bD_ ?_ | refine bA_ ?_ _)); exact (Q_BK269 h0_ h1_)) hb))
            have z_BK270 := fun (h0_ : b 38 = true) (h1_ : b 42 = false) => (show w58.heap[gb270]? = some (.cells #[.int .i64 0, .int .i64 0] 25 (0, 0)) from by first | exact (blk_below (g := gb270) (o := .cells #[.int .i64 0, .int .i64 0] 25 (0, 0)) (by (with_reducible repeat (first | refine bN_ ?_ _ | refine bD_ ?_ | refine bA_ ?_ _)); exact (Q_BK270 h0_ h1_)) hb))
            have z_BK271 := fun (h0_ : b 39 = true) (h1_ : b 43 = false) => (show w58.heap[gb271]? = some (.cells #[.int .i64 0, .int .i64 0] 25 (0, 0)) from by first | exact (blk_below (g := gb271) (o := .cells #[.int .i64 0, .int .i64 0] 25 (0, 0)) (by (with_reducible repeat (first | refine bN_ ?_ _ | refine bD_ ?_ | refine bA_ ?_ _)); exact (Q_BK271 h0_ h1_)) hb))
            clear BK254 BK255 BK256 HB
            have BK254 := n0_; have BK255 := n1_; have BK256 := n2_; have HB := n3_; have BK268 := n4_; have GW268 := n5_; have GE268 := n6_; have NB254_268 := n7_; have NB268_254 := n8_; have NB255_268 := n9_; have NB268_255 := n10_; have NB256_268 := n11_; have NB268_256 := n12_
            clear n0_ n1_ n2_ n3_ n4_ n5_ n6_ n7_ n8_ n9_ n10_ n11_ n12_ hb hbox hg
            refine hK.out _ _ ⟨gb268, gb269, gb270, gb271, (.pointer (some ⟨gb268, 0, none⟩)), m37_, m38_, m39_, (by rw [ha.out]; exact putSel_upk 20 hb_ rfl rfl rfl), (by (with_reducible repeat (first | refine bN_ ?_ _ | refine bD_ ?_ | refine bA_ ?_ _)); exact BK254.out), (by (with_reducible repeat (first | refine bN_ ?_ _ | refine bD_ ?_ | refine bA_ ?_ _)); exact BK255.out), (by (with_reducible repeat (first | refine bN_ ?_ _ | refine bD_ ?_ | refine bA_ ?_ _)); exact BK256.out), (by repeat (first | (with_reducible first | exact HB.out | apply lA_ | apply lN_ | apply lD_ | refine lS_ ?_ GE254.out | refine lS_ ?_ GE255.out | refine lS_ ?_ GE256.out | refine lS_ ?_ GE268.out) | exact HB.out)), z_NB269_268, z_NB268_269, z_NB270_268, z_NB268_270, z_NB271_268, z_NB268_271, Q_NB270_269, Q_NB269_270, Q_NB271_269, Q_NB269_271, Q_NB271_270, Q_NB270_271, fun _ _ => (by (with_reducible repeat (first | refine bN_ ?_ _ | refine bD_ ?_ | refine bA_ ?_ _)); exact BK268.out), fun _ => GW268.out, fun _ => GE268.out, fun _ => NB254_268.out, fun _ => NB268_254.out, fun _ => NB255_268.out, fun _ => NB268_255.out, fun _ => NB256_268.out, fun _ => NB268_256.out, z_BK269, Q_GW269, Q_GE269, Q_NB254_269, Q_NB269_254, Q_NB255_269, Q_NB269_255, Q_NB256_269, Q_NB269_256, z_BK270, Q_GW270, Q_GE270, Q_NB254_270, Q_NB270_254, Q_NB255_270, Q_NB270_255, Q_NB256_270, Q_NB270_256, z_BK271, Q_GW271, Q_GE271, Q_NB254_271, Q_NB271_254, Q_NB255_271, Q_NB271_255, Q_NB256_271, Q_NB271_256, fun h0_ => absurd ((hoff 40 (by kernel_rfl)).symm.trans h0_) (by decide), fun h0_ => absurd ((hoff 41 (by kernel_rfl)).symm.trans h0_) (by decide), fun h0_ => absurd ((hoff 42 (by kernel_rfl)).symm.trans h0_) (by decide), fun h0_ => absurd ((hoff 43 (by kernel_rfl)).symm.trans h0_) (by decide), fun _ => rfl, Q_X37_, Q_X38_, Q_X39_⟩
          refine steps_cons ?_ ?_
          · rintro b a w' ⟨gb268, gb269, gb270, gb271, m36_, m37_, m38_, m39_, ha, Q_BK254, Q_BK255, Q_BK256, Q_HB, Q_NB269_268, Q_NB268_269, Q_NB270_268, Q_NB268_270, Q_NB271_268, Q_NB268_271, Q_NB270_269, Q_NB269_270, Q_NB271_269, Q_NB269_271, Q_NB271_270, Q_NB270_271, Q_BK268, Q_GW268, Q_GE268, Q_NB254_268, Q_NB268_254, Q_NB255_268, Q_NB268_255, Q_NB256_268, Q_NB268_256, Q_BK269, Q_GW269, Q_GE269, Q_NB254_269, Q_NB269_254, Q_NB255_269, Q_NB269_255, Q_NB256_269, Q_NB269_256, Q_BK270, Q_GW270, Q_GE270, Q_NB254_270, Q_NB270_254, Q_NB255_270, Q_NB270_255, Q_NB256_270, Q_NB270_256, Q_BK271, Q_GW271, Q_GE271, Q_NB254_271, Q_NB271_254, Q_NB255_271, Q_NB271_255, Q_NB256_271, Q_NB271_256, Q_BK268_e40, Q_BK269_e41, Q_BK270_e42, Q_BK271_e43, Q_X36_, Q_X37_, Q_X38_, Q_X39_⟩ hb_ hon hoff
            refine ⟨_, rfl, fun K hK => ?_⟩
            replace ha := Aside0.mk ha
            have BK254 := Aside0.mk Q_BK254
            have BK255 := Aside0.mk Q_BK255
            have BK256 := Aside0.mk Q_BK256
            have HB := Aside0.mk Q_HB
            refine box_step ?hg (N := 9) ?hd (cs := #[.int .i64 0, .int .i64 0]) (t := 25) ?hr ?_; (case hd => rfl); (case hg => rfl); (case hr => first | (go_simp; done) | (go_simp; rfl))
            intro gb269 hg w58 hbox hb
            have n0_ := Aside0.mk (blk_below (g := gb254) (o := .cells #[.int .i64 a0_0, .int .i64 a0_1, .int .i64 a0_2, .int .i64 a0_3, .int .i64 a0_4, .int .i64 a0_5] 23 (0, 0)) (by (with_reducible repeat (first | refine bN_ ?_ _ | refine bD_ ?_ | refine bA_ ?_ _)); exact BK254.out) hb)
            have n1_ := Aside0.mk (blk_below (g := gb255) (o := .cells #[.int .i64 a1_0, .int .i64 a1_1, .int .i64 a1_2, .int .i64 a1_3] 44 (0, 0)) (by (with_reducible repeat (first | refine bN_ ?_ _ | refine bD_ ?_ | refine bA_ ?_ _)); exact BK255.out) hb)
            have n2_ := Aside0.mk (blk_below (g := gb256) (o := .cells #[.int .i64 x257000_26, .int .i64 x257001_26, .int .i64 x257002_26, .int .i64 x257003_26] 44 (0, 0)) (by (with_reducible repeat (first | refine bN_ ?_ _ | refine bD_ ?_ | refine bA_ ?_ _)); exact BK256.out) hb)
            have n3_ := Aside0.mk (below_step (by repeat (first | (with_reducible first | exact HB.out | apply lA_ | apply lN_ | apply lD_ | refine lS_ ?_ GE254.out | refine lS_ ?_ GE255.out | refine lS_ ?_ GE256.out) | exact HB.out)) hb)
            have n4_ := Aside0.mk (hbox)
            have n5_ := Aside0.mk ((by rw [hg]; exact (below_size (by repeat (first | (with_reducible first | exact HB.out | apply lA_ | apply lN_ | apply lD_ | refine lS_ ?_ GE254.out | refine lS_ ?_ GE255.out | refine lS_ ?_ GE256.out) | exact HB.out))) : w.heap.size ≤ gb269))
            have n6_ := Aside0.mk ((by rw [hg]; exact (below_size (by repeat (first | (with_reducible first | exact HB.out | apply lA_ | apply lN_ | apply lD_ | refine lS_ ?_ GE254.out | refine lS_ ?_ GE255.out | refine lS_ ?_ GE256.out) | exact HB.out))) : w.heap.size ≤ gb269))
            have n7_ := Aside0.mk ((by rw [hg]; exact Nat.ne_of_lt (blk_lt (g := gb254) (o := .cells #[.int .i64 a0_0, .int .i64 a0_1, .int .i64 a0_2, .int .i64 a0_3, .int .i64 a0_4, .int .i64 a0_5] 23 (0, 0)) (by (with_reducible repeat (first | refine bN_ ?_ _ | refine bD_ ?_ | refine bA_ ?_ _)); exact BK254.out)) : gb254 ≠ gb269))
            have n8_ := Aside0.mk ((by rw [hg]; exact Nat.ne_of_gt (blk_lt (g := gb254) (o := .cells #[.int .i64 a0_0, .int .i64 a0_1, .int .i64 a0_2, .int .i64 a0_3, .int .i64 a0_4, .int .i64 a0_5] 23 (0, 0)) (by (with_reducible repeat (first | refine bN_ ?_ _ | refine bD_ ?_ | refine bA_ ?_ _)); exact BK254.out)) : gb269 ≠ gb254))
            have n9_ := Aside0.mk ((by rw [hg]; exact Nat.ne_of_lt (blk_lt (g := gb255) (o := .cells #[.int .i64 a1_0, .int .i64 a1_1, .int .i64 a1_2, .int .i64 a1_3] 44 (0, 0)) (by (with_reducible repeat (first | refine bN_ ?_ _ | refine bD_ ?_ | refine bA_ ?_ _)); exact BK255.out)) : gb255 ≠ gb269))
            have n10_ := Aside0.mk ((by rw [hg]; exact Nat.ne_of_gt (blk_lt (g := gb255) (o := .cells #[.int .i64 a1_0, .int .i64 a1_1, .int .i64 a1_2, .int .i64 a1_3] 44 (0, 0)) (by (with_reducible repeat (first | refine bN_ ?_ _ | refine bD_ ?_ | refine bA_ ?_ _)); exact BK255.out)) : gb269 ≠ gb255))
            have n11_ := Aside0.mk ((by rw [hg]; exact Nat.ne_of_lt (blk_lt (g := gb256) (o := .cells #[.int .i64 x257000_26, .int .i64 x257001_26, .int .i64 x257002_26, .int .i64 x257003_26] 44 (0, 0)) (by (with_reducible repeat (first | refine bN_ ?_ _ | refine bD_ ?_ | refine bA_ ?_ _)); exact BK256.out)) : gb256 ≠ gb269))
            have n12_ := Aside0.mk ((by rw [hg]; exact Nat.ne_of_gt (blk_lt (g := gb256) (o := .cells #[.int .i64 x257000_26, .int .i64 x257001_26, .int .i64 x257002_26, .int .i64 x257003_26] 44 (0, 0)) (by (with_reducible repeat (first | refine bN_ ?_ _ | refine bD_ ?_ | refine bA_ ?_ _)); exact BK256.out)) : gb269 ≠ gb256))
            have z_NB269_268 := fun (h0_ : up b 37 36 = true) (h1_ : up b 37 37 = true) => (show gb269 ≠ gb268 from ((by rw [hg]; exact Nat.ne_of_gt (blk_lt (g := gb268) (o := .cells #[.int .i64 0, .int .i64 0] 25 (0, 0)) (by (with_reducible repeat (first | refine bN_ ?_ _ | refine bD_ ?_ | refine bA_ ?_ _)); exact (Q_BK268 h0_ (hoff 40 (by kernel_rfl))))) : gb269 ≠ gb268)))
            have z_NB268_269 := fun (h0_ : up b 37 36 = true) (h1_ : up b 37 37 = true) => (show gb268 ≠ gb269 from ((by rw [hg]; exact Nat.ne_of_lt (blk_lt (g := gb268) (o := .cells #[.int .i64 0, .int .i64 0] 25 (0, 0)) (by (with_reducible repeat (first | refine bN_ ?_ _ | refine bD_ ?_ | refine bA_ ?_ _)); exact (Q_BK268 h0_ (hoff 40 (by kernel_rfl))))) : gb268 ≠ gb269)))
            have z_NB270_269 := fun (h0_ : up b 37 37 = true) (h1_ : up b 37 38 = true) => (show gb270 ≠ gb269 from ((by rw [hg]; exact Nat.ne_of_lt (blk_lt (g := gb270) (o := .cells #[.int .i64 0, .int .i64 0] 25 (0, 0)) (by (with_reducible repeat (first | refine bN_ ?_ _ | refine bD_ ?_ | refine bA_ ?_ _)); exact (Q_BK270 h1_ (hoff 42 (by kernel_rfl))))) : gb270 ≠ gb269)))
            have z_NB269_270 := fun (h0_ : up b 37 37 = true) (h1_ : up b 37 38 = true) => (show gb269 ≠ gb270 from ((by rw [hg]; exact Nat.ne_of_gt (blk_lt (g := gb270) (o := .cells #[.int .i64 0, .int .i64 0] 25 (0, 0)) (by (with_reducible repeat (first | refine bN_ ?_ _ | refine bD_ ?_ | refine bA_ ?_ _)); exact (Q_BK270 h1_ (hoff 42 (by kernel_rfl))))) : gb269 ≠ gb270)))
            have z_NB271_269 := fun (h0_ : up b 37 37 = true) (h1_ : up b 37 39 = true) => (show gb271 ≠ gb269 from ((by rw [hg]; exact Nat.ne_of_lt (blk_lt (g := gb271) (o := .cells #[.int .i64 0, .int .i64 0] 25 (0, 0)) (by (with_reducible repeat (first | refine bN_ ?_ _ | refine bD_ ?_ | refine bA_ ?_ _)); exact (Q_BK271 h1_ (hoff 43 (by kernel_rfl))))) : gb271 ≠ gb269)))
            have z_NB269_271 := fun (h0_ : up b 37 37 = true) (h1_ : up b 37 39 = true) => (show gb269 ≠ gb271 from ((by rw [hg]; exact Nat.ne_of_gt (blk_lt (g := gb271) (o := .cells #[.int .i64 0, .int .i64 0] 25 (0, 0)) (by (with_reducible repeat (first | refine bN_ ?_ _ | refine bD_ ?_ | refine bA_ ?_ _)); exact (Q_BK271 h1_ (hoff 43 (by kernel_rfl))))) : gb269 ≠ gb271)))
            have z_BK268 := fun (h0_ : b 36 = true) (h1_ : b 40 = false) => (show w58.heap[gb268]? = some (.cells #[.int .i64 0, .int .i64 0] 25 (0, 0)) from by first | exact (blk_below (g := gb268) (o := .cells #[.int .i64 0, .int .i64 0] 25 (0, 0)) (by (with_reducible repeat (first | refine bN_ ?_ _ | refine bD_ ?_ | refine bA_ ?_ _)); exact (Q_BK268 h0_ h1_)) hb))
            have z_BK270 := fun (h0_ : b 38 = true) (h1_ : b 42 = false) => (show w58.heap[gb270]? = some (.cells #[.int .i64 0, .int .i64 0] 25 (0, 0)) from by first | exact (blk_below (g := gb270) (o := .cells #[.int .i64 0, .int .i64 0] 25 (0, 0)) (by (with_reducible repeat (first | refine bN_ ?_ _ | refine bD_ ?_ | refine bA_ ?_ _)); exact (Q_BK270 h0_ h1_)) hb))
            have z_BK271 := fun (h0_ : b 39 = true) (h1_ : b 43 = false) => (show w58.heap[gb271]? = some (.cells #[.int .i64 0, .int .i64 0] 25 (0, 0)) from by first | exact (blk_below (g := gb271) (o := .cells #[.int .i64 0, .int .i64 0] 25 (0, 0)) (by (with_reducible repeat (first | refine bN_ ?_ _ | refine bD_ ?_ | refine bA_ ?_ _)); exact (Q_BK271 h0_ h1_)) hb))
            clear BK254 BK255 BK256 HB
            have BK254 := n0_; have BK255 := n1_; have BK256 := n2_; have HB := n3_; have BK269 := n4_; have GW269 := n5_; have GE269 := n6_; have NB254_269 := n7_; have NB269_254 := n8_; have NB255_269 := n9_; have NB269_255 := n10_; have NB256_269 := n11_; have NB269_256 := n12_
            clear n0_ n1_ n2_ n3_ n4_ n5_ n6_ n7_ n8_ n9_ n10_ n11_ n12_ hb hbox hg
            refine hK.out _ _ ⟨gb268, gb269, gb270, gb271, m36_, (.pointer (some ⟨gb269, 0, none⟩)), m38_, m39_, (by rw [ha.out]; exact putSel_upk 21 hb_ rfl rfl rfl), (by (with_reducible repeat (first | refine bN_ ?_ _ | refine bD_ ?_ | refine bA_ ?_ _)); exact BK254.out), (by (with_reducible repeat (first | refine bN_ ?_ _ | refine bD_ ?_ | refine bA_ ?_ _)); exact BK255.out), (by (with_reducible repeat (first | refine bN_ ?_ _ | refine bD_ ?_ | refine bA_ ?_ _)); exact BK256.out), (by repeat (first | (with_reducible first | exact HB.out | apply lA_ | apply lN_ | apply lD_ | refine lS_ ?_ GE254.out | refine lS_ ?_ GE255.out | refine lS_ ?_ GE256.out | refine lS_ ?_ GE269.out) | exact HB.out)), z_NB269_268, z_NB268_269, Q_NB270_268, Q_NB268_270, Q_NB271_268, Q_NB268_271, z_NB270_269, z_NB269_270, z_NB271_269, z_NB269_271, Q_NB271_270, Q_NB270_271, z_BK268, Q_GW268, Q_GE268, Q_NB254_268, Q_NB268_254, Q_NB255_268, Q_NB268_255, Q_NB256_268, Q_NB268_256, fun _ _ => (by (with_reducible repeat (first | refine bN_ ?_ _ | refine bD_ ?_ | refine bA_ ?_ _)); exact BK269.out), fun _ => GW269.out, fun _ => GE269.out, fun _ => NB254_269.out, fun _ => NB269_254.out, fun _ => NB255_269.out, fun _ => NB269_255.out, fun _ => NB256_269.out, fun _ => NB269_256.out, z_BK270, Q_GW270, Q_GE270, Q_NB254_270, Q_NB270_254, Q_NB255_270, Q_NB270_255, Q_NB256_270, Q_NB270_256, z_BK271, Q_GW271, Q_GE271, Q_NB254_271, Q_NB271_254, Q_NB255_271, Q_NB271_255, Q_NB256_271, Q_NB271_256, fun h0_ => absurd ((hoff 40 (by kernel_rfl)).symm.trans h0_) (by decide), fun h0_ => absurd ((hoff 41 (by kernel_rfl)).symm.trans h0_) (by decide), fun h0_ => absurd ((hoff 42 (by kernel_rfl)).symm.trans h0_) (by decide), fun h0_ => absurd ((hoff 43 (by kernel_rfl)).symm.trans h0_) (by decide), Q_X36_, fun _ => rfl, Q_X38_, Q_X39_⟩
          refine steps_cons ?_ ?_
          · rintro b a w' ⟨gb268, gb269, gb270, gb271, m36_, m37_, m38_, m39_, ha, Q_BK254, Q_BK255, Q_BK256, Q_HB, Q_NB269_268, Q_NB268_269, Q_NB270_268, Q_NB268_270, Q_NB271_268, Q_NB268_271, Q_NB270_269, Q_NB269_270, Q_NB271_269, Q_NB269_271, Q_NB271_270, Q_NB270_271, Q_BK268, Q_GW268, Q_GE268, Q_NB254_268, Q_NB268_254, Q_NB255_268, Q_NB268_255, Q_NB256_268, Q_NB268_256, Q_BK269, Q_GW269, Q_GE269, Q_NB254_269, Q_NB269_254, Q_NB255_269, Q_NB269_255, Q_NB256_269, Q_NB269_256, Q_BK270, Q_GW270, Q_GE270, Q_NB254_270, Q_NB270_254, Q_NB255_270, Q_NB270_255, Q_NB256_270, Q_NB270_256, Q_BK271, Q_GW271, Q_GE271, Q_NB254_271, Q_NB271_254, Q_NB255_271, Q_NB271_255, Q_NB256_271, Q_NB271_256, Q_BK268_e40, Q_BK269_e41, Q_BK270_e42, Q_BK271_e43, Q_X36_, Q_X37_, Q_X38_, Q_X39_⟩ hb_ hon hoff
            refine ⟨_, rfl, fun K hK => ?_⟩
            replace ha := Aside0.mk ha
            have BK254 := Aside0.mk Q_BK254
            have BK255 := Aside0.mk Q_BK255
            have BK256 := Aside0.mk Q_BK256
            have HB := Aside0.mk Q_HB
            refine box_step ?hg (N := 10) ?hd (cs := #[.int .i64 0, .int .i64 0]) (t := 25) ?hr ?_; (case hd => rfl); (case hg => rfl); (case hr => first | (go_simp; done) | (go_simp; rfl))
            intro gb270 hg w58 hbox hb
            have n0_ := Aside0.mk (blk_below (g := gb254) (o := .cells #[.int .i64 a0_0, .int .i64 a0_1, .int .i64 a0_2, .int .i64 a0_3, .int .i64 a0_4, .int .i64 a0_5] 23 (0, 0)) (by (with_reducible repeat (first | refine bN_ ?_ _ | refine bD_ ?_ | refine bA_ ?_ _)); exact BK254.out) hb)
            have n1_ := Aside0.mk (blk_below (g := gb255) (o := .cells #[.int .i64 a1_0, .int .i64 a1_1, .int .i64 a1_2, .int .i64 a1_3] 44 (0, 0)) (by (with_reducible repeat (first | refine bN_ ?_ _ | refine bD_ ?_ | refine bA_ ?_ _)); exact BK255.out) hb)
            have n2_ := Aside0.mk (blk_below (g := gb256) (o := .cells #[.int .i64 x257000_26, .int .i64 x257001_26, .int .i64 x257002_26, .int .i64 x257003_26] 44 (0, 0)) (by (with_reducible repeat (first | refine bN_ ?_ _ | refine bD_ ?_ | refine bA_ ?_ _)); exact BK256.out) hb)
            have n3_ := Aside0.mk (below_step (by repeat (first | (with_reducible first | exact HB.out | apply lA_ | apply lN_ | apply lD_ | refine lS_ ?_ GE254.out | refine lS_ ?_ GE255.out | refine lS_ ?_ GE256.out) | exact HB.out)) hb)
            have n4_ := Aside0.mk (hbox)
            have n5_ := Aside0.mk ((by rw [hg]; exact (below_size (by repeat (first | (with_reducible first | exact HB.out | apply lA_ | apply lN_ | apply lD_ | refine lS_ ?_ GE254.out | refine lS_ ?_ GE255.out | refine lS_ ?_ GE256.out) | exact HB.out))) : w.heap.size ≤ gb270))
            have n6_ := Aside0.mk ((by rw [hg]; exact (below_size (by repeat (first | (with_reducible first | exact HB.out | apply lA_ | apply lN_ | apply lD_ | refine lS_ ?_ GE254.out | refine lS_ ?_ GE255.out | refine lS_ ?_ GE256.out) | exact HB.out))) : w.heap.size ≤ gb270))
            have n7_ := Aside0.mk ((by rw [hg]; exact Nat.ne_of_lt (blk_lt (g := gb254) (o := .cells #[.int .i64 a0_0, .int .i64 a0_1, .int .i64 a0_2, .int .i64 a0_3, .int .i64 a0_4, .int .i64 a0_5] 23 (0, 0)) (by (with_reducible repeat (first | refine bN_ ?_ _ | refine bD_ ?_ | refine bA_ ?_ _)); exact BK254.out)) : gb254 ≠ gb270))
            have n8_ := Aside0.mk ((by rw [hg]; exact Nat.ne_of_gt (blk_lt (g := gb254) (o := .cells #[.int .i64 a0_0, .int .i64 a0_1, .int .i64 a0_2, .int .i64 a0_3, .int .i64 a0_4, .int .i64 a0_5] 23 (0, 0)) (by (with_reducible repeat (first | refine bN_ ?_ _ | refine bD_ ?_ | refine bA_ ?_ _)); exact BK254.out)) : gb270 ≠ gb254))
            have n9_ := Aside0.mk ((by rw [hg]; exact Nat.ne_of_lt (blk_lt (g := gb255) (o := .cells #[.int .i64 a1_0, .int .i64 a1_1, .int .i64 a1_2, .int .i64 a1_3] 44 (0, 0)) (by (with_reducible repeat (first | refine bN_ ?_ _ | refine bD_ ?_ | refine bA_ ?_ _)); exact BK255.out)) : gb255 ≠ gb270))
            have n10_ := Aside0.mk ((by rw [hg]; exact Nat.ne_of_gt (blk_lt (g := gb255) (o := .cells #[.int .i64 a1_0, .int .i64 a1_1, .int .i64 a1_2, .int .i64 a1_3] 44 (0, 0)) (by (with_reducible repeat (first | refine bN_ ?_ _ | refine bD_ ?_ | refine bA_ ?_ _)); exact BK255.out)) : gb270 ≠ gb255))
            have n11_ := Aside0.mk ((by rw [hg]; exact Nat.ne_of_lt (blk_lt (g := gb256) (o := .cells #[.int .i64 x257000_26, .int .i64 x257001_26, .int .i64 x257002_26, .int .i64 x257003_26] 44 (0, 0)) (by (with_reducible repeat (first | refine bN_ ?_ _ | refine bD_ ?_ | refine bA_ ?_ _)); exact BK256.out)) : gb256 ≠ gb270))
            have n12_ := Aside0.mk ((by rw [hg]; exact Nat.ne_of_gt (blk_lt (g := gb256) (o := .cells #[.int .i64 x257000_26, .int .i64 x257001_26, .int .i64 x257002_26, .int .i64 x257003_26] 44 (0, 0)) (by (with_reducible repeat (first | refine bN_ ?_ _ | refine bD_ ?_ | refine bA_ ?_ _)); exact BK256.out)) : gb270 ≠ gb256))
            have z_NB270_268 := fun (h0_ : up b 38 36 = true) (h1_ : up b 38 38 = true) => (show gb270 ≠ gb268 from ((by rw [hg]; exact Nat.ne_of_gt (blk_lt (g := gb268) (o := .cells #[.int .i64 0, .int .i64 0] 25 (0, 0)) (by (with_reducible repeat (first | refine bN_ ?_ _ | refine bD_ ?_ | refine bA_ ?_ _)); exact (Q_BK268 h0_ (hoff 40 (by kernel_rfl))))) : gb270 ≠ gb268)))
            have z_NB268_270 := fun (h0_ : up b 38 36 = true) (h1_ : up b 38 38 = true) => (show gb268 ≠ gb270 from ((by rw [hg]; exact Nat.ne_of_lt (blk_lt (g := gb268) (o := .cells #[.int .i64 0, .int .i64 0] 25 (0, 0)) (by (with_reducible repeat (first | refine bN_ ?_ _ | refine bD_ ?_ | refine bA_ ?_ _)); exact (Q_BK268 h0_ (hoff 40 (by kernel_rfl))))) : gb268 ≠ gb270)))
            have z_NB270_269 := fun (h0_ : up b 38 37 = true) (h1_ : up b 38 38 = true) => (show gb270 ≠ gb269 from ((by rw [hg]; exact Nat.ne_of_gt (blk_lt (g := gb269) (o := .cells #[.int .i64 0, .int .i64 0] 25 (0, 0)) (by (with_reducible repeat (first | refine bN_ ?_ _ | refine bD_ ?_ | refine bA_ ?_ _)); exact (Q_BK269 h0_ (hoff 41 (by kernel_rfl))))) : gb270 ≠ gb269)))
            have z_NB269_270 := fun (h0_ : up b 38 37 = true) (h1_ : up b 38 38 = true) => (show gb269 ≠ gb270 from ((by rw [hg]; exact Nat.ne_of_lt (blk_lt (g := gb269) (o := .cells #[.int .i64 0, .int .i64 0] 25 (0, 0)) (by (with_reducible repeat (first | refine bN_ ?_ _ | refine bD_ ?_ | refine bA_ ?_ _)); exact (Q_BK269 h0_ (hoff 41 (by kernel_rfl))))) : gb269 ≠ gb270)))
            have z_NB271_270 := fun (h0_ : up b 38 38 = true) (h1_ : up b 38 39 = true) => (show gb271 ≠ gb270 from ((by rw [hg]; exact Nat.ne_of_lt (blk_lt (g := gb271) (o := .cells #[.int .i64 0, .int .i64 0] 25 (0, 0)) (by (with_reducible repeat (first | refine bN_ ?_ _ | refine bD_ ?_ | refine bA_ ?_ _)); exact (Q_BK271 h1_ (hoff 43 (by kernel_rfl))))) : gb271 ≠ gb270)))
            have z_NB270_271 := fun (h0_ : up b 38 38 = true) (h1_ : up b 38 39 = true) => (show gb270 ≠ gb271 from ((by rw [hg]; exact Nat.ne_of_gt (blk_lt (g := gb271) (o := .cells #[.int .i64 0, .int .i64 0] 25 (0, 0)) (by (with_reducible repeat (first | refine bN_ ?_ _ | refine bD_ ?_ | refine bA_ ?_ _)); exact (Q_BK271 h1_ (hoff 43 (by kernel_rfl))))) : gb270 ≠ gb271)))
            have z_BK268 := fun (h0_ : b 36 = true) (h1_ : b 40 = false) => (show w58.heap[gb268]? = some (.cells #[.int .i64 0, .int .i64 0] 25 (0, 0)) from by first | exact (blk_below (g := gb268) (o := .cells #[.int .i64 0, .int .i64 0] 25 (0, 0)) (by (with_reducible repeat (first | refine bN_ ?_ _ | refine bD_ ?_ | refine bA_ ?_ _)); exact (Q_BK268 h0_ h1_)) hb))
            have z_BK269 := fun (h0_ : b 37 = true) (h1_ : b 41 = false) => (show w58.heap[gb269]? = some (.cells #[.int .i64 0, .int .i64 0] 25 (0, 0)) from by first | exact (blk_below (g := gb269) (o := .cells #[.int .i64 0, .int .i64 0] 25 (0, 0)) (by (with_reducible repeat (first | refine bN_ ?_ _ | refine bD_ ?_ | refine bA_ ?_ _)); exact (Q_BK269 h0_ h1_)) hb))
            have z_BK271 := fun (h0_ : b 39 = true) (h1_ : b 43 = false) => (show w58.heap[gb271]? = some (.cells #[.int .i64 0, .int .i64 0] 25 (0, 0)) from by first | exact (blk_below (g := gb271) (o := .cells #[.int .i64 0, .int .i64 0] 25 (0, 0)) (by (with_reducible repeat (first | refine bN_ ?_ _ | refine bD_ ?_ | refine bA_ ?_ _)); exact (Q_BK271 h0_ h1_)) hb))
            clear BK254 BK255 BK256 HB
            have BK254 := n0_; have BK255 := n1_; have BK256 := n2_; have HB := n3_; have BK270 := n4_; have GW270 := n5_; have GE270 := n6_; have NB254_270 := n7_; have NB270_254 := n8_; have NB255_270 := n9_; have NB270_255 := n10_; have NB256_270 := n11_; have NB270_256 := n12_
            clear n0_ n1_ n2_ n3_ n4_ n5_ n6_ n7_ n8_ n9_ n10_ n11_ n12_ hb hbox hg
            refine hK.out _ _ ⟨gb268, gb269, gb270, gb271, m36_, m37_, (.pointer (some ⟨gb270, 0, none⟩)), m39_, (by rw [ha.out]; exact putSel_upk 22 hb_ rfl rfl rfl), (by (with_reducible repeat (first | refine bN_ ?_ _ | refine bD_ ?_ | refine bA_ ?_ _)); exact BK254.out), (by (with_reducible repeat (first | refine bN_ ?_ _ | refine bD_ ?_ | refine bA_ ?_ _)); exact BK255.out), (by (with_reducible repeat (first | refine bN_ ?_ _ | refine bD_ ?_ | refine bA_ ?_ _)); exact BK256.out), (by repeat (first | (with_reducible first | exact HB.out | apply lA_ | apply lN_ | apply lD_ | refine lS_ ?_ GE254.out | refine lS_ ?_ GE255.out | refine lS_ ?_ GE256.out | refine lS_ ?_ GE270.out) | exact HB.out)), Q_NB269_268, Q_NB268_269, z_NB270_268, z_NB268_270, Q_NB271_268, Q_NB268_271, z_NB270_269, z_NB269_270, Q_NB271_269, Q_NB269_271, z_NB271_270, z_NB270_271, z_BK268, Q_GW268, Q_GE268, Q_NB254_268, Q_NB268_254, Q_NB255_268, Q_NB268_255, Q_NB256_268, Q_NB268_256, z_BK269, Q_GW269, Q_GE269, Q_NB254_269, Q_NB269_254, Q_NB255_269, Q_NB269_255, Q_NB256_269, Q_NB269_256, fun _ _ => (by (with_reducible repeat (first | refine bN_ ?_ _ | refine bD_ ?_ | refine bA_ ?_ _)); exact BK270.out), fun _ => GW270.out, fun _ => GE270.out, fun _ => NB254_270.out, fun _ => NB270_254.out, fun _ => NB255_270.out, fun _ => NB270_255.out, fun _ => NB256_270.out, fun _ => NB270_256.out, z_BK271, Q_GW271, Q_GE271, Q_NB254_271, Q_NB271_254, Q_NB255_271, Q_NB271_255, Q_NB256_271, Q_NB271_256, fun h0_ => absurd ((hoff 40 (by kernel_rfl)).symm.trans h0_) (by decide), fun h0_ => absurd ((hoff 41 (by kernel_rfl)).symm.trans h0_) (by decide), fun h0_ => absurd ((hoff 42 (by kernel_rfl)).symm.trans h0_) (by decide), fun h0_ => absurd ((hoff 43 (by kernel_rfl)).symm.trans h0_) (by decide), Q_X36_, Q_X37_, fun _ => rfl, Q_X39_⟩
          refine steps_cons ?_ ?_
          · rintro b a w' ⟨gb268, gb269, gb270, gb271, m36_, m37_, m38_, m39_, ha, Q_BK254, Q_BK255, Q_BK256, Q_HB, Q_NB269_268, Q_NB268_269, Q_NB270_268, Q_NB268_270, Q_NB271_268, Q_NB268_271, Q_NB270_269, Q_NB269_270, Q_NB271_269, Q_NB269_271, Q_NB271_270, Q_NB270_271, Q_BK268, Q_GW268, Q_GE268, Q_NB254_268, Q_NB268_254, Q_NB255_268, Q_NB268_255, Q_NB256_268, Q_NB268_256, Q_BK269, Q_GW269, Q_GE269, Q_NB254_269, Q_NB269_254, Q_NB255_269, Q_NB269_255, Q_NB256_269, Q_NB269_256, Q_BK270, Q_GW270, Q_GE270, Q_NB254_270, Q_NB270_254, Q_NB255_270, Q_NB270_255, Q_NB256_270, Q_NB270_256, Q_BK271, Q_GW271, Q_GE271, Q_NB254_271, Q_NB271_254, Q_NB255_271, Q_NB271_255, Q_NB256_271, Q_NB271_256, Q_BK268_e40, Q_BK269_e41, Q_BK270_e42, Q_BK271_e43, Q_X36_, Q_X37_, Q_X38_, Q_X39_⟩ hb_ hon hoff
            refine ⟨_, rfl, fun K hK => ?_⟩
            replace ha := Aside0.mk ha
            have BK254 := Aside0.mk Q_BK254
            have BK255 := Aside0.mk Q_BK255
            have BK256 := Aside0.mk Q_BK256
            have HB := Aside0.mk Q_HB
            refine box_step ?hg (N := 11) ?hd (cs := #[.int .i64 0, .int .i64 0]) (t := 25) ?hr ?_; (case hd => rfl); (case hg => rfl); (case hr => first | (go_simp; done) | (go_simp; rfl))
            intro gb271 hg w58 hbox hb
            have n0_ := Aside0.mk (blk_below (g := gb254) (o := .cells #[.int .i64 a0_0, .int .i64 a0_1, .int .i64 a0_2, .int .i64 a0_3, .int .i64 a0_4, .int .i64 a0_5] 23 (0, 0)) (by (with_reducible repeat (first | refine bN_ ?_ _ | refine bD_ ?_ | refine bA_ ?_ _)); exact BK254.out) hb)
            have n1_ := Aside0.mk (blk_below (g := gb255) (o := .cells #[.int .i64 a1_0, .int .i64 a1_1, .int .i64 a1_2, .int .i64 a1_3] 44 (0, 0)) (by (with_reducible repeat (first | refine bN_ ?_ _ | refine bD_ ?_ | refine bA_ ?_ _)); exact BK255.out) hb)
            have n2_ := Aside0.mk (blk_below (g := gb256) (o := .cells #[.int .i64 x257000_26, .int .i64 x257001_26, .int .i64 x257002_26, .int .i64 x257003_26] 44 (0, 0)) (by (with_reducible repeat (first | refine bN_ ?_ _ | refine bD_ ?_ | refine bA_ ?_ _)); exact BK256.out) hb)
            have n3_ := Aside0.mk (below_step (by repeat (first | (with_reducible first | exact HB.out | apply lA_ | apply lN_ | apply lD_ | refine lS_ ?_ GE254.out | refine lS_ ?_ GE255.out | refine lS_ ?_ GE256.out) | exact HB.out)) hb)
            have n4_ := Aside0.mk (hbox)
            have n5_ := Aside0.mk ((by rw [hg]; exact (below_size (by repeat (first | (with_reducible first | exact HB.out | apply lA_ | apply lN_ | apply lD_ | refine lS_ ?_ GE254.out | refine lS_ ?_ GE255.out | refine lS_ ?_ GE256.out) | exact HB.out))) : w.heap.size ≤ gb271))
            have n6_ := Aside0.mk ((by rw [hg]; exact (below_size (by repeat (first | (with_reducible first | exact HB.out | apply lA_ | apply lN_ | apply lD_ | refine lS_ ?_ GE254.out | refine lS_ ?_ GE255.out | refine lS_ ?_ GE256.out) | exact HB.out))) : w.heap.size ≤ gb271))
            have n7_ := Aside0.mk ((by rw [hg]; exact Nat.ne_of_lt (blk_lt (g := gb254) (o := .cells #[.int .i64 a0_0, .int .i64 a0_1, .int .i64 a0_2, .int .i64 a0_3, .int .i64 a0_4, .int .i64 a0_5] 23 (0, 0)) (by (with_reducible repeat (first | refine bN_ ?_ _ | refine bD_ ?_ | refine bA_ ?_ _)); exact BK254.out)) : gb254 ≠ gb271))
            have n8_ := Aside0.mk ((by rw [hg]; exact Nat.ne_of_gt (blk_lt (g := gb254) (o := .cells #[.int .i64 a0_0, .int .i64 a0_1, .int .i64 a0_2, .int .i64 a0_3, .int .i64 a0_4, .int .i64 a0_5] 23 (0, 0)) (by (with_reducible repeat (first | refine bN_ ?_ _ | refine bD_ ?_ | refine bA_ ?_ _)); exact BK254.out)) : gb271 ≠ gb254))
            have n9_ := Aside0.mk ((by rw [hg]; exact Nat.ne_of_lt (blk_lt (g := gb255) (o := .cells #[.int .i64 a1_0, .int .i64 a1_1, .int .i64 a1_2, .int .i64 a1_3] 44 (0, 0)) (by (with_reducible repeat (first | refine bN_ ?_ _ | refine bD_ ?_ | refine bA_ ?_ _)); exact BK255.out)) : gb255 ≠ gb271))
            have n10_ := Aside0.mk ((by rw [hg]; exact Nat.ne_of_gt (blk_lt (g := gb255) (o := .cells #[.int .i64 a1_0, .int .i64 a1_1, .int .i64 a1_2, .int .i64 a1_3] 44 (0, 0)) (by (with_reducible repeat (first | refine bN_ ?_ _ | refine bD_ ?_ | refine bA_ ?_ _)); exact BK255.out)) : gb271 ≠ gb255))
            have n11_ := Aside0.mk ((by rw [hg]; exact Nat.ne_of_lt (blk_lt (g := gb256) (o := .cells #[.int .i64 x257000_26, .int .i64 x257001_26, .int .i64 x257002_26, .int .i64 x257003_26] 44 (0, 0)) (by (with_reducible repeat (first | refine bN_ ?_ _ | refine bD_ ?_ | refine bA_ ?_ _)); exact BK256.out)) : gb256 ≠ gb271))
            have n12_ := Aside0.mk ((by rw [hg]; exact Nat.ne_of_gt (blk_lt (g := gb256) (o := .cells #[.int .i64 x257000_26, .int .i64 x257001_26, .int .i64 x257002_26, .int .i64 x257003_26] 44 (0, 0)) (by (with_reducible repeat (first | refine bN_ ?_ _ | refine bD_ ?_ | refine bA_ ?_ _)); exact BK256.out)) : gb271 ≠ gb256))
            have z_NB271_268 := fun (h0_ : up b 39 36 = true) (h1_ : up b 39 39 = true) => (show gb271 ≠ gb268 from ((by rw [hg]; exact Nat.ne_of_gt (blk_lt (g := gb268) (o := .cells #[.int .i64 0, .int .i64 0] 25 (0, 0)) (by (with_reducible repeat (first | refine bN_ ?_ _ | refine bD_ ?_ | refine bA_ ?_ _)); exact (Q_BK268 h0_ (hoff 40 (by kernel_rfl))))) : gb271 ≠ gb268)))
            have z_NB268_271 := fun (h0_ : up b 39 36 = true) (h1_ : up b 39 39 = true) => (show gb268 ≠ gb271 from ((by rw [hg]; exact Nat.ne_of_lt (blk_lt (g := gb268) (o := .cells #[.int .i64 0, .int .i64 0] 25 (0, 0)) (by (with_reducible repeat (first | refine bN_ ?_ _ | refine bD_ ?_ | refine bA_ ?_ _)); exact (Q_BK268 h0_ (hoff 40 (by kernel_rfl))))) : gb268 ≠ gb271)))
            have z_NB271_269 := fun (h0_ : up b 39 37 = true) (h1_ : up b 39 39 = true) => (show gb271 ≠ gb269 from ((by rw [hg]; exact Nat.ne_of_gt (blk_lt (g := gb269) (o := .cells #[.int .i64 0, .int .i64 0] 25 (0, 0)) (by (with_reducible repeat (first | refine bN_ ?_ _ | refine bD_ ?_ | refine bA_ ?_ _)); exact (Q_BK269 h0_ (hoff 41 (by kernel_rfl))))) : gb271 ≠ gb269)))
            have z_NB269_271 := fun (h0_ : up b 39 37 = true) (h1_ : up b 39 39 = true) => (show gb269 ≠ gb271 from ((by rw [hg]; exact Nat.ne_of_lt (blk_lt (g := gb269) (o := .cells #[.int .i64 0, .int .i64 0] 25 (0, 0)) (by (with_reducible repeat (first | refine bN_ ?_ _ | refine bD_ ?_ | refine bA_ ?_ _)); exact (Q_BK269 h0_ (hoff 41 (by kernel_rfl))))) : gb269 ≠ gb271)))
            have z_NB271_270 := fun (h0_ : up b 39 38 = true) (h1_ : up b 39 39 = true) => (show gb271 ≠ gb270 from ((by rw [hg]; exact Nat.ne_of_gt (blk_lt (g := gb270) (o := .cells #[.int .i64 0, .int .i64 0] 25 (0, 0)) (by (with_reducible repeat (first | refine bN_ ?_ _ | refine bD_ ?_ | refine bA_ ?_ _)); exact (Q_BK270 h0_ (hoff 42 (by kernel_rfl))))) : gb271 ≠ gb270)))
            have z_NB270_271 := fun (h0_ : up b 39 38 = true) (h1_ : up b 39 39 = true) => (show gb270 ≠ gb271 from ((by rw [hg]; exact Nat.ne_of_lt (blk_lt (g := gb270) (o := .cells #[.int .i64 0, .int .i64 0] 25 (0, 0)) (by (with_reducible repeat (first | refine bN_ ?_ _ | refine bD_ ?_ | refine bA_ ?_ _)); exact (Q_BK270 h0_ (hoff 42 (by kernel_rfl))))) : gb270 ≠ gb271)))
            have z_BK268 := fun (h0_ : b 36 = true) (h1_ : b 40 = false) => (show w58.heap[gb268]? = some (.cells #[.int .i64 0, .int .i64 0] 25 (0, 0)) from by first | exact (blk_below (g := gb268) (o := .cells #[.int .i64 0, .int .i64 0] 25 (0, 0)) (by (with_reducible repeat (first | refine bN_ ?_ _ | refine bD_ ?_ | refine bA_ ?_ _)); exact (Q_BK268 h0_ h1_)) hb))
            have z_BK269 := fun (h0_ : b 37 = true) (h1_ : b 41 = false) => (show w58.heap[gb269]? = some (.cells #[.int .i64 0, .int .i64 0] 25 (0, 0)) from by first | exact (blk_below (g := gb269) (o := .cells #[.int .i64 0, .int .i64 0] 25 (0, 0)) (by (with_reducible repeat (first | refine bN_ ?_ _ | refine bD_ ?_ | refine bA_ ?_ _)); exact (Q_BK269 h0_ h1_)) hb))
            have z_BK270 := fun (h0_ : b 38 = true) (h1_ : b 42 = false) => (show w58.heap[gb270]? = some (.cells #[.int .i64 0, .int .i64 0] 25 (0, 0)) from by first | exact (blk_below (g := gb270) (o := .cells #[.int .i64 0, .int .i64 0] 25 (0, 0)) (by (with_reducible repeat (first | refine bN_ ?_ _ | refine bD_ ?_ | refine bA_ ?_ _)); exact (Q_BK270 h0_ h1_)) hb))
            clear BK254 BK255 BK256 HB
            have BK254 := n0_; have BK255 := n1_; have BK256 := n2_; have HB := n3_; have BK271 := n4_; have GW271 := n5_; have GE271 := n6_; have NB254_271 := n7_; have NB271_254 := n8_; have NB255_271 := n9_; have NB271_255 := n10_; have NB256_271 := n11_; have NB271_256 := n12_
            clear n0_ n1_ n2_ n3_ n4_ n5_ n6_ n7_ n8_ n9_ n10_ n11_ n12_ hb hbox hg
            refine hK.out _ _ ⟨gb268, gb269, gb270, gb271, m36_, m37_, m38_, (.pointer (some ⟨gb271, 0, none⟩)), (by rw [ha.out]; exact putSel_upk 23 hb_ rfl rfl rfl), (by (with_reducible repeat (first | refine bN_ ?_ _ | refine bD_ ?_ | refine bA_ ?_ _)); exact BK254.out), (by (with_reducible repeat (first | refine bN_ ?_ _ | refine bD_ ?_ | refine bA_ ?_ _)); exact BK255.out), (by (with_reducible repeat (first | refine bN_ ?_ _ | refine bD_ ?_ | refine bA_ ?_ _)); exact BK256.out), (by repeat (first | (with_reducible first | exact HB.out | apply lA_ | apply lN_ | apply lD_ | refine lS_ ?_ GE254.out | refine lS_ ?_ GE255.out | refine lS_ ?_ GE256.out | refine lS_ ?_ GE271.out) | exact HB.out)), Q_NB269_268, Q_NB268_269, Q_NB270_268, Q_NB268_270, z_NB271_268, z_NB268_271, Q_NB270_269, Q_NB269_270, z_NB271_269, z_NB269_271, z_NB271_270, z_NB270_271, z_BK268, Q_GW268, Q_GE268, Q_NB254_268, Q_NB268_254, Q_NB255_268, Q_NB268_255, Q_NB256_268, Q_NB268_256, z_BK269, Q_GW269, Q_GE269, Q_NB254_269, Q_NB269_254, Q_NB255_269, Q_NB269_255, Q_NB256_269, Q_NB269_256, z_BK270, Q_GW270, Q_GE270, Q_NB254_270, Q_NB270_254, Q_NB255_270, Q_NB270_255, Q_NB256_270, Q_NB270_256, fun _ _ => (by (with_reducible repeat (first | refine bN_ ?_ _ | refine bD_ ?_ | refine bA_ ?_ _)); exact BK271.out), fun _ => GW271.out, fun _ => GE271.out, fun _ => NB254_271.out, fun _ => NB271_254.out, fun _ => NB255_271.out, fun _ => NB271_255.out, fun _ => NB256_271.out, fun _ => NB271_256.out, fun h0_ => absurd ((hoff 40 (by kernel_rfl)).symm.trans h0_) (by decide), fun h0_ => absurd ((hoff 41 (by kernel_rfl)).symm.trans h0_) (by decide), fun h0_ => absurd ((hoff 42 (by kernel_rfl)).symm.trans h0_) (by decide), fun h0_ => absurd ((hoff 43 (by kernel_rfl)).symm.trans h0_) (by decide), Q_X36_, Q_X37_, Q_X38_, fun _ => rfl⟩
          refine steps_cons ?_ ?_
          · rintro b a w' ⟨gb268, gb269, gb270, gb271, m36_, m37_, m38_, m39_, ha, Q_BK254, Q_BK255, Q_BK256, Q_HB, Q_NB269_268, Q_NB268_269, Q_NB270_268, Q_NB268_270, Q_NB271_268, Q_NB268_271, Q_NB270_269, Q_NB269_270, Q_NB271_269, Q_NB269_271, Q_NB271_270, Q_NB270_271, Q_BK268, Q_GW268, Q_GE268, Q_NB254_268, Q_NB268_254, Q_NB255_268, Q_NB268_255, Q_NB256_268, Q_NB268_256, Q_BK269, Q_GW269, Q_GE269, Q_NB254_269, Q_NB269_254, Q_NB255_269, Q_NB269_255, Q_NB256_269, Q_NB269_256, Q_BK270, Q_GW270, Q_GE270, Q_NB254_270, Q_NB270_254, Q_NB255_270, Q_NB270_255, Q_NB256_270, Q_NB270_256, Q_BK271, Q_GW271, Q_GE271, Q_NB254_271, Q_NB271_254, Q_NB255_271, Q_NB271_255, Q_NB256_271, Q_NB271_256, Q_BK268_e40, Q_BK269_e41, Q_BK270_e42, Q_BK271_e43, Q_X36_, Q_X37_, Q_X38_, Q_X39_⟩ hb_ hon hoff
            refine ⟨_, rfl, fun K hK => ?_⟩
            have e8 : a.tmps[8]? = some (m36_) := by rw [ha]; exact putSel_on (e := (36, 8, m36_)) 20 rfl rfl (hon 36 (by kernel_rfl)) rfl
            rw [Q_X36_ (hon 36 (by kernel_rfl))] at e8
            have e37 : a.tmps[37]? = some (.agg #[.int .i64 t260, .int .i64 t261]) := by rw [ha]; exact putSel_on (e := (5, 37, .agg #[.int .i64 t260, .int .i64 t261])) 2 rfl rfl (hon 5 (by kernel_rfl)) rfl
            replace ha := Aside0.mk ha
            have BK254 := Aside0.mk Q_BK254
            have BK255 := Aside0.mk Q_BK255
            have BK256 := Aside0.mk Q_BK256
            have HB := Aside0.mk Q_HB
            have NB269_268 := Aside0.mk (Q_NB269_268 (hon 36 (by kernel_rfl)) (hon 37 (by kernel_rfl)))
            have NB268_269 := Aside0.mk (Q_NB268_269 (hon 36 (by kernel_rfl)) (hon 37 (by kernel_rfl)))
            have NB270_268 := Aside0.mk (Q_NB270_268 (hon 36 (by kernel_rfl)) (hon 38 (by kernel_rfl)))
            have NB268_270 := Aside0.mk (Q_NB268_270 (hon 36 (by kernel_rfl)) (hon 38 (by kernel_rfl)))
            have NB271_268 := Aside0.mk (Q_NB271_268 (hon 36 (by kernel_rfl)) (hon 39 (by kernel_rfl)))
            have NB268_271 := Aside0.mk (Q_NB268_271 (hon 36 (by kernel_rfl)) (hon 39 (by kernel_rfl)))
            have NB270_269 := Aside0.mk (Q_NB270_269 (hon 37 (by kernel_rfl)) (hon 38 (by kernel_rfl)))
            have NB269_270 := Aside0.mk (Q_NB269_270 (hon 37 (by kernel_rfl)) (hon 38 (by kernel_rfl)))
            have NB271_269 := Aside0.mk (Q_NB271_269 (hon 37 (by kernel_rfl)) (hon 39 (by kernel_rfl)))
            have NB269_271 := Aside0.mk (Q_NB269_271 (hon 37 (by kernel_rfl)) (hon 39 (by kernel_rfl)))
            have NB271_270 := Aside0.mk (Q_NB271_270 (hon 38 (by kernel_rfl)) (hon 39 (by kernel_rfl)))
            have NB270_271 := Aside0.mk (Q_NB270_271 (hon 38 (by kernel_rfl)) (hon 39 (by kernel_rfl)))
            have BK268 := Aside0.mk (Q_BK268 (hon 36 (by kernel_rfl)) hb_)
            have GW268 := Aside0.mk (Q_GW268 (hon 36 (by kernel_rfl)))
            have GE268 := Aside0.mk (Q_GE268 (hon 36 (by kernel_rfl)))
            have NB254_268 := Aside0.mk (Q_NB254_268 (hon 36 (by kernel_rfl)))
            have NB268_254 := Aside0.mk (Q_NB268_254 (hon 36 (by kernel_rfl)))
            have NB255_268 := Aside0.mk (Q_NB255_268 (hon 36 (by kernel_rfl)))
            have NB268_255 := Aside0.mk (Q_NB268_255 (hon 36 (by kernel_rfl)))
            have NB256_268 := Aside0.mk (Q_NB256_268 (hon 36 (by kernel_rfl)))
            have NB268_256 := Aside0.mk (Q_NB268_256 (hon 36 (by kernel_rfl)))
            have BK269 := Aside0.mk (Q_BK269 (hon 37 (by kernel_rfl)) (hoff 41 (by kernel_rfl)))
            have GW269 := Aside0.mk (Q_GW269 (hon 37 (by kernel_rfl)))
            have GE269 := Aside0.mk (Q_GE269 (hon 37 (by kernel_rfl)))
            have NB254_269 := Aside0.mk (Q_NB254_269 (hon 37 (by kernel_rfl)))
            have NB269_254 := Aside0.mk (Q_NB269_254 (hon 37 (by kernel_rfl)))
            have NB255_269 := Aside0.mk (Q_NB255_269 (hon 37 (by kernel_rfl)))
            have NB269_255 := Aside0.mk (Q_NB269_255 (hon 37 (by kernel_rfl)))
            have NB256_269 := Aside0.mk (Q_NB256_269 (hon 37 (by kernel_rfl)))
            have NB269_256 := Aside0.mk (Q_NB269_256 (hon 37 (by kernel_rfl)))
            have BK270 := Aside0.mk (Q_BK270 (hon 38 (by kernel_rfl)) (hoff 42 (by kernel_rfl)))
            have GW270 := Aside0.mk (Q_GW270 (hon 38 (by kernel_rfl)))
            have GE270 := Aside0.mk (Q_GE270 (hon 38 (by kernel_rfl)))
            have NB254_270 := Aside0.mk (Q_NB254_270 (hon 38 (by kernel_rfl)))
            have NB270_254 := Aside0.mk (Q_NB270_254 (hon 38 (by kernel_rfl)))
            have NB255_270 := Aside0.mk (Q_NB255_270 (hon 38 (by kernel_rfl)))
            have NB270_255 := Aside0.mk (Q_NB270_255 (hon 38 (by kernel_rfl)))
            have NB256_270 := Aside0.mk (Q_NB256_270 (hon 38 (by kernel_rfl)))
            have NB270_256 := Aside0.mk (Q_NB270_256 (hon 38 (by kernel_rfl)))
            have BK271 := Aside0.mk (Q_BK271 (hon 39 (by kernel_rfl)) (hoff 43 (by kernel_rfl)))
            have GW271 := Aside0.mk (Q_GW271 (hon 39 (by kernel_rfl)))
            have GE271 := Aside0.mk (Q_GE271 (hon 39 (by kernel_rfl)))
            have NB254_271 := Aside0.mk (Q_NB254_271 (hon 39 (by kernel_rfl)))
            have NB271_254 := Aside0.mk (Q_NB271_254 (hon 39 (by kernel_rfl)))
            have NB255_271 := Aside0.mk (Q_NB255_271 (hon 39 (by kernel_rfl)))
            have NB271_255 := Aside0.mk (Q_NB271_255 (hon 39 (by kernel_rfl)))
            have NB256_271 := Aside0.mk (Q_NB256_271 (hon 39 (by kernel_rfl)))
            have NB271_256 := Aside0.mk (Q_NB271_256 (hon 39 (by kernel_rfl)))
            have hs67 : w'.cell? ⟨gb268, 0, none⟩ = some (.int .i64 0) := (blk_cell BK268.out 0).trans rfl
            have hfs67 := blk_frozen BK268.out 0
            have hns67_0 := NB254_268.out
            have hns67_1 := NB255_268.out
            have hns67_2 := NB256_268.out
            have hns67_4 := NB269_268.out
            have hns67_5 := NB270_268.out
            have hns67_6 := NB271_268.out
            have hms67_0 := NB268_254.out
            have hms67_1 := NB268_255.out
            have hms67_2 := NB268_256.out
            have hms67_4 := NB268_269.out
            have hms67_5 := NB268_270.out
            have hms67_6 := NB268_271.out
            have hs68 : w'.cell? ⟨gb268, 1, none⟩ = some (.int .i64 0) := (blk_cell BK268.out 1).trans rfl
            have hfs68 := blk_frozen BK268.out 1
            have hns68_0 := NB254_268.out
            have hns68_1 := NB255_268.out
            have hns68_2 := NB256_268.out
            have hns68_4 := NB269_268.out
            have hns68_5 := NB270_268.out
            have hns68_6 := NB271_268.out
            have hms68_0 := NB268_254.out
            have hms68_1 := NB268_255.out
            have hms68_2 := NB268_256.out
            have hms68_4 := NB268_269.out
            have hms68_5 := NB268_270.out
            have hms68_6 := NB268_271.out
            refine skip_ (w1 := ?_) (by rfl) rfl ?_ ?_
            rotate_left
            · go_simp
              rfl
            refine hK.out _ _ ⟨gb268, gb269, gb270, gb271, m36_, m37_, m38_, m39_, (by rw [ha.out]; exact putSel_none (v := undef) rfl), (by (with_reducible repeat (first | refine bN_ ?_ _ | refine bD_ ?_ | refine bA_ ?_ _)); refine blk_far ?_ NB254_268.out _; (with_reducible repeat (first | refine bN_ ?_ _ | refine bD_ ?_ | refine bA_ ?_ _)); refine blk_far ?_ NB254_268.out _; (with_reducible repeat (first | refine bN_ ?_ _ | refine bD_ ?_ | refine bA_ ?_ _)); exact BK254.out), (by (with_reducible repeat (first | refine bN_ ?_ _ | refine bD_ ?_ | refine bA_ ?_ _)); refine blk_far ?_ NB255_268.out _; (with_reducible repeat (first | refine bN_ ?_ _ | refine bD_ ?_ | refine bA_ ?_ _)); refine blk_far ?_ NB255_268.out _; (with_reducible repeat (first | refine bN_ ?_ _ | refine bD_ ?_ | refine bA_ ?_ _)); exact BK255.out), (by (with_reducible repeat (first | refine bN_ ?_ _ | refine bD_ ?_ | refine bA_ ?_ _)); refine blk_far ?_ NB256_268.out _; (with_reducible repeat (first | refine bN_ ?_ _ | refine bD_ ?_ | refine bA_ ?_ _)); refine blk_far ?_ NB256_268.out _; (with_reducible repeat (first | refine bN_ ?_ _ | refine bD_ ?_ | refine bA_ ?_ _)); exact BK256.out), (by repeat (first | (with_reducible first | exact HB.out | apply lA_ | apply lN_ | apply lD_ | refine lS_ ?_ GE254.out | refine lS_ ?_ GE255.out | refine lS_ ?_ GE256.out | refine lS_ ?_ GE268.out | refine lS_ ?_ GE269.out | refine lS_ ?_ GE270.out | refine lS_ ?_ GE271.out) | exact HB.out)), fun _ _ => NB269_268.out, fun _ _ => NB268_269.out, fun _ _ => NB270_268.out, fun _ _ => NB268_270.out, fun _ _ => NB271_268.out, fun _ _ => NB268_271.out, fun _ _ => NB270_269.out, fun _ _ => NB269_270.out, fun _ _ => NB271_269.out, fun _ _ => NB269_271.out, fun _ _ => NB271_270.out, fun _ _ => NB270_271.out, fun _ h1_ => absurd ((up_self b 40).symm.trans h1_) (by decide), fun _ => GW268.out, fun _ => GE268.out, fun _ => NB254_268.out, fun _ => NB268_254.out, fun _ => NB255_268.out, fun _ => NB268_255.out, fun _ => NB256_268.out, fun _ => NB268_256.out, fun _ _ => (by (with_reducible repeat (first | refine bN_ ?_ _ | refine bD_ ?_ | refine bA_ ?_ _)); refine blk_far ?_ NB269_268.out _; (with_reducible repeat (first | refine bN_ ?_ _ | refine bD_ ?_ | refine bA_ ?_ _)); refine blk_far ?_ NB269_268.out _; (with_reducible repeat (first | refine bN_ ?_ _ | refine bD_ ?_ | refine bA_ ?_ _)); exact BK269.out), fun _ => GW269.out, fun _ => GE269.out, fun _ => NB254_269.out, fun _ => NB269_254.out, fun _ => NB255_269.out, fun _ => NB269_255.out, fun _ => NB256_269.out, fun _ => NB269_256.out, fun _ _ => (by (with_reducible repeat (first | refine bN_ ?_ _ | refine bD_ ?_ | refine bA_ ?_ _)); refine blk_far ?_ NB270_268.out _; (with_reducible repeat (first | refine bN_ ?_ _ | refine bD_ ?_ | refine bA_ ?_ _)); refine blk_far ?_ NB270_268.out _; (with_reducible repeat (first | refine bN_ ?_ _ | refine bD_ ?_ | refine bA_ ?_ _)); exact BK270.out), fun _ => GW270.out, fun _ => GE270.out, fun _ => NB254_270.out, fun _ => NB270_254.out, fun _ => NB255_270.out, fun _ => NB270_255.out, fun _ => NB256_270.out, fun _ => NB270_256.out, fun _ _ => (by (with_reducible repeat (first | refine bN_ ?_ _ | refine bD_ ?_ | refine bA_ ?_ _)); refine blk_far ?_ NB271_268.out _; (with_reducible repeat (first | refine bN_ ?_ _ | refine bD_ ?_ | refine bA_ ?_ _)); refine blk_far ?_ NB271_268.out _; (with_reducible repeat (first | refine bN_ ?_ _ | refine bD_ ?_ | refine bA_ ?_ _)); exact BK271.out), fun _ => GW271.out, fun _ => GE271.out, fun _ => NB254_271.out, fun _ => NB271_254.out, fun _ => NB255_271.out, fun _ => NB271_255.out, fun _ => NB256_271.out, fun _ => NB271_256.out, fun _ => (by (with_reducible repeat (first | refine bN_ ?_ _ | refine bD_ ?_ | refine bA_ ?_ _)); refine blk_put (cs := #[.int .i64 t260, .int .i64 0]) ?_ 1 _ rfl; (with_reducible repeat (first | refine bN_ ?_ _ | refine bD_ ?_ | refine bA_ ?_ _)); refine blk_put (cs := #[.int .i64 0, .int .i64 0]) ?_ 0 _ rfl; (with_reducible repeat (first | refine bN_ ?_ _ | refine bD_ ?_ | refine bA_ ?_ _)); exact BK268.out), fun h0_ => absurd ((hoff 41 (by kernel_rfl)).symm.trans h0_) (by decide), fun h0_ => absurd ((hoff 42 (by kernel_rfl)).symm.trans h0_) (by decide), fun h0_ => absurd ((hoff 43 (by kernel_rfl)).symm.trans h0_) (by decide), Q_X36_, Q_X37_, Q_X38_, Q_X39_⟩
          refine steps_cons ?_ ?_
          · rintro b a w' ⟨gb268, gb269, gb270, gb271, m36_, m37_, m38_, m39_, ha, Q_BK254, Q_BK255, Q_BK256, Q_HB, Q_NB269_268, Q_NB268_269, Q_NB270_268, Q_NB268_270, Q_NB271_268, Q_NB268_271, Q_NB270_269, Q_NB269_270, Q_NB271_269, Q_NB269_271, Q_NB271_270, Q_NB270_271, Q_BK268, Q_GW268, Q_GE268, Q_NB254_268, Q_NB268_254, Q_NB255_268, Q_NB268_255, Q_NB256_268, Q_NB268_256, Q_BK269, Q_GW269, Q_GE269, Q_NB254_269, Q_NB269_254, Q_NB255_269, Q_NB269_255, Q_NB256_269, Q_NB269_256, Q_BK270, Q_GW270, Q_GE270, Q_NB254_270, Q_NB270_254, Q_NB255_270, Q_NB270_255, Q_NB256_270, Q_NB270_256, Q_BK271, Q_GW271, Q_GE271, Q_NB254_271, Q_NB271_254, Q_NB255_271, Q_NB271_255, Q_NB256_271, Q_NB271_256, Q_BK268_e40, Q_BK269_e41, Q_BK270_e42, Q_BK271_e43, Q_X36_, Q_X37_, Q_X38_, Q_X39_⟩ hb_ hon hoff
            refine ⟨_, rfl, fun K hK => ?_⟩
            have e9 : a.tmps[9]? = some (m37_) := by rw [ha]; exact putSel_on (e := (37, 9, m37_)) 21 rfl rfl (hon 37 (by kernel_rfl)) rfl
            rw [Q_X37_ (hon 37 (by kernel_rfl))] at e9
            have e46 : a.tmps[46]? = some (.agg #[.int .i64 t262, .int .i64 t263]) := by rw [ha]; exact putSel_on (e := (14, 46, .agg #[.int .i64 t262, .int .i64 t263])) 7 rfl rfl (hon 14 (by kernel_rfl)) rfl
            replace ha := Aside0.mk ha
            have BK254 := Aside0.mk Q_BK254
            have BK255 := Aside0.mk Q_BK255
            have BK256 := Aside0.mk Q_BK256
            have HB := Aside0.mk Q_HB
            have NB269_268 := Aside0.mk (Q_NB269_268 (hon 36 (by kernel_rfl)) (hon 37 (by kernel_rfl)))
            have NB268_269 := Aside0.mk (Q_NB268_269 (hon 36 (by kernel_rfl)) (hon 37 (by kernel_rfl)))
            have NB270_268 := Aside0.mk (Q_NB270_268 (hon 36 (by kernel_rfl)) (hon 38 (by kernel_rfl)))
            have NB268_270 := Aside0.mk (Q_NB268_270 (hon 36 (by kernel_rfl)) (hon 38 (by kernel_rfl)))
            have NB271_268 := Aside0.mk (Q_NB271_268 (hon 36 (by kernel_rfl)) (hon 39 (by kernel_rfl)))
            have NB268_271 := Aside0.mk (Q_NB268_271 (hon 36 (by kernel_rfl)) (hon 39 (by kernel_rfl)))
            have NB270_269 := Aside0.mk (Q_NB270_269 (hon 37 (by kernel_rfl)) (hon 38 (by kernel_rfl)))
            have NB269_270 := Aside0.mk (Q_NB269_270 (hon 37 (by kernel_rfl)) (hon 38 (by kernel_rfl)))
            have NB271_269 := Aside0.mk (Q_NB271_269 (hon 37 (by kernel_rfl)) (hon 39 (by kernel_rfl)))
            have NB269_271 := Aside0.mk (Q_NB269_271 (hon 37 (by kernel_rfl)) (hon 39 (by kernel_rfl)))
            have NB271_270 := Aside0.mk (Q_NB271_270 (hon 38 (by kernel_rfl)) (hon 39 (by kernel_rfl)))
            have NB270_271 := Aside0.mk (Q_NB270_271 (hon 38 (by kernel_rfl)) (hon 39 (by kernel_rfl)))
            have GW268 := Aside0.mk (Q_GW268 (hon 36 (by kernel_rfl)))
            have GE268 := Aside0.mk (Q_GE268 (hon 36 (by kernel_rfl)))
            have NB254_268 := Aside0.mk (Q_NB254_268 (hon 36 (by kernel_rfl)))
            have NB268_254 := Aside0.mk (Q_NB268_254 (hon 36 (by kernel_rfl)))
            have NB255_268 := Aside0.mk (Q_NB255_268 (hon 36 (by kernel_rfl)))
            have NB268_255 := Aside0.mk (Q_NB268_255 (hon 36 (by kernel_rfl)))
            have NB256_268 := Aside0.mk (Q_NB256_268 (hon 36 (by kernel_rfl)))
            have NB268_256 := Aside0.mk (Q_NB268_256 (hon 36 (by kernel_rfl)))
            have BK269 := Aside0.mk (Q_BK269 (hon 37 (by kernel_rfl)) hb_)
            have GW269 := Aside0.mk (Q_GW269 (hon 37 (by kernel_rfl)))
            have GE269 := Aside0.mk (Q_GE269 (hon 37 (by kernel_rfl)))
            have NB254_269 := Aside0.mk (Q_NB254_269 (hon 37 (by kernel_rfl)))
            have NB269_254 := Aside0.mk (Q_NB269_254 (hon 37 (by kernel_rfl)))
            have NB255_269 := Aside0.mk (Q_NB255_269 (hon 37 (by kernel_rfl)))
            have NB269_255 := Aside0.mk (Q_NB269_255 (hon 37 (by kernel_rfl)))
            have NB256_269 := Aside0.mk (Q_NB256_269 (hon 37 (by kernel_rfl)))
            have NB269_256 := Aside0.mk (Q_NB269_256 (hon 37 (by kernel_rfl)))
            have BK270 := Aside0.mk (Q_BK270 (hon 38 (by kernel_rfl)) (hoff 42 (by kernel_rfl)))
            have GW270 := Aside0.mk (Q_GW270 (hon 38 (by kernel_rfl)))
            have GE270 := Aside0.mk (Q_GE270 (hon 38 (by kernel_rfl)))
            have NB254_270 := Aside0.mk (Q_NB254_270 (hon 38 (by kernel_rfl)))
            have NB270_254 := Aside0.mk (Q_NB270_254 (hon 38 (by kernel_rfl)))
            have NB255_270 := Aside0.mk (Q_NB255_270 (hon 38 (by kernel_rfl)))
            have NB270_255 := Aside0.mk (Q_NB270_255 (hon 38 (by kernel_rfl)))
            have NB256_270 := Aside0.mk (Q_NB256_270 (hon 38 (by kernel_rfl)))
            have NB270_256 := Aside0.mk (Q_NB270_256 (hon 38 (by kernel_rfl)))
            have BK271 := Aside0.mk (Q_BK271 (hon 39 (by kernel_rfl)) (hoff 43 (by kernel_rfl)))
            have GW271 := Aside0.mk (Q_GW271 (hon 39 (by kernel_rfl)))
            have GE271 := Aside0.mk (Q_GE271 (hon 39 (by kernel_rfl)))
            have NB254_271 := Aside0.mk (Q_NB254_271 (hon 39 (by kernel_rfl)))
            have NB271_254 := Aside0.mk (Q_NB271_254 (hon 39 (by kernel_rfl)))
            have NB255_271 := Aside0.mk (Q_NB255_271 (hon 39 (by kernel_rfl)))
            have NB271_255 := Aside0.mk (Q_NB271_255 (hon 39 (by kernel_rfl)))
            have NB256_271 := Aside0.mk (Q_NB256_271 (hon 39 (by kernel_rfl)))
            have NB271_256 := Aside0.mk (Q_NB271_256 (hon 39 (by kernel_rfl)))
            have BK268 := Aside0.mk (Q_BK268_e40 (hon 40 (by kernel_rfl)))
            have hs69 : w'.cell? ⟨gb269, 0, none⟩ = some (.int .i64 0) := (blk_cell BK269.out 0).trans rfl
            have hfs69 := blk_frozen BK269.out 0
            have hns69_0 := NB254_269.out
            have hns69_1 := NB255_269.out
            have hns69_2 := NB256_269.out
            have hns69_3 := NB268_269.out
            have hns69_5 := NB270_269.out
            have hns69_6 := NB271_269.out
            have hms69_0 := NB269_254.out
            have hms69_1 := NB269_255.out
            have hms69_2 := NB269_256.out
            have hms69_3 := NB269_268.out
            have hms69_5 := NB269_270.out
            have hms69_6 := NB269_271.out
            have hs70 : w'.cell? ⟨gb269, 1, none⟩ = some (.int .i64 0) := (blk_cell BK269.out 1).trans rfl
            have hfs70 := blk_frozen BK269.out 1
            have hns70_0 := NB254_269.out
            have hns70_1 := NB255_269.out
            have hns70_2 := NB256_269.out
            have hns70_3 := NB268_269.out
            have hns70_5 := NB270_269.out
            have hns70_6 := NB271_269.out
            have hms70_0 := NB269_254.out
            have hms70_1 := NB269_255.out
            have hms70_2 := NB269_256.out
            have hms70_3 := NB269_268.out
            have hms70_5 := NB269_270.out
            have hms70_6 := NB269_271.out
            refine skip_ (w1 := ?_) (by rfl) rfl ?_ ?_
            rotate_left
            · go_simp
              rfl
            refine hK.out _ _ ⟨gb268, gb269, gb270, gb271, m36_, m37_, m38_, m39_, (by rw [ha.out]; exact putSel_none (v := undef) rfl), (by (with_reducible repeat (first | refine bN_ ?_ _ | refine bD_ ?_ | refine bA_ ?_ _)); refine blk_far ?_ NB254_269.out _; (with_reducible repeat (first | refine bN_ ?_ _ | refine bD_ ?_ | refine bA_ ?_ _)); refine blk_far ?_ NB254_269.out _; (with_reducible repeat (first | refine bN_ ?_ _ | refine bD_ ?_ | refine bA_ ?_ _)); exact BK254.out), (by (with_reducible repeat (first | refine bN_ ?_ _ | refine bD_ ?_ | refine bA_ ?_ _)); refine blk_far ?_ NB255_269.out _; (with_reducible repeat (first | refine bN_ ?_ _ | refine bD_ ?_ | refine bA_ ?_ _)); refine blk_far ?_ NB255_269.out _; (with_reducible repeat (first | refine bN_ ?_ _ | refine bD_ ?_ | refine bA_ ?_ _)); exact BK255.out), (by (with_reducible repeat (first | refine bN_ ?_ _ | refine bD_ ?_ | refine bA_ ?_ _)); refine blk_far ?_ NB256_269.out _; (with_reducible repeat (first | refine bN_ ?_ _ | refine bD_ ?_ | refine bA_ ?_ _)); refine blk_far ?_ NB256_269.out _; (with_reducible repeat (first | refine bN_ ?_ _ | refine bD_ ?_ | refine bA_ ?_ _)); exact BK256.out), (by repeat (first | (with_reducible first | exact HB.out | apply lA_ | apply lN_ | apply lD_ | refine lS_ ?_ GE254.out | refine lS_ ?_ GE255.out | refine lS_ ?_ GE256.out | refine lS_ ?_ GE268.out | refine lS_ ?_ GE269.out | refine lS_ ?_ GE270.out | refine lS_ ?_ GE271.out) | exact HB.out)), fun _ _ => NB269_268.out, fun _ _ => NB268_269.out, fun _ _ => NB270_268.out, fun _ _ => NB268_270.out, fun _ _ => NB271_268.out, fun _ _ => NB268_271.out, fun _ _ => NB270_269.out, fun _ _ => NB269_270.out, fun _ _ => NB271_269.out, fun _ _ => NB269_271.out, fun _ _ => NB271_270.out, fun _ _ => NB270_271.out, fun _ h1_ => absurd ((hon 40 (by kernel_rfl)).symm.trans h1_) (by decide), fun _ => GW268.out, fun _ => GE268.out, fun _ => NB254_268.out, fun _ => NB268_254.out, fun _ => NB255_268.out, fun _ => NB268_255.out, fun _ => NB256_268.out, fun _ => NB268_256.out, fun _ h1_ => absurd ((up_self b 41).symm.trans h1_) (by decide), fun _ => GW269.out, fun _ => GE269.out, fun _ => NB254_269.out, fun _ => NB269_254.out, fun _ => NB255_269.out, fun _ => NB269_255.out, fun _ => NB256_269.out, fun _ => NB269_256.out, fun _ _ => (by (with_reducible repeat (first | refine bN_ ?_ _ | refine bD_ ?_ | refine bA_ ?_ _)); refine blk_far ?_ NB270_269.out _; (with_reducible repeat (first | refine bN_ ?_ _ | refine bD_ ?_ | refine bA_ ?_ _)); refine blk_far ?_ NB270_269.out _; (with_reducible repeat (first | refine bN_ ?_ _ | refine bD_ ?_ | refine bA_ ?_ _)); exact BK270.out), fun _ => GW270.out, fun _ => GE270.out, fun _ => NB254_270.out, fun _ => NB270_254.out, fun _ => NB255_270.out, fun _ => NB270_255.out, fun _ => NB256_270.out, fun _ => NB270_256.out, fun _ _ => (by (with_reducible repeat (first | refine bN_ ?_ _ | refine bD_ ?_ | refine bA_ ?_ _)); refine blk_far ?_ NB271_269.out _; (with_reducible repeat (first | refine bN_ ?_ _ | refine bD_ ?_ | refine bA_ ?_ _)); refine blk_far ?_ NB271_269.out _; (with_reducible repeat (first | refine bN_ ?_ _ | refine bD_ ?_ | refine bA_ ?_ _)); exact BK271.out), fun _ => GW271.out, fun _ => GE271.out, fun _ => NB254_271.out, fun _ => NB271_254.out, fun _ => NB255_271.out, fun _ => NB271_255.out, fun _ => NB256_271.out, fun _ => NB271_256.out, fun _ => (by (with_reducible repeat (first | refine bN_ ?_ _ | refine bD_ ?_ | refine bA_ ?_ _)); refine blk_far ?_ NB268_269.out _; (with_reducible repeat (first | refine bN_ ?_ _ | refine bD_ ?_ | refine bA_ ?_ _)); refine blk_far ?_ NB268_269.out _; (with_reducible repeat (first | refine bN_ ?_ _ | refine bD_ ?_ | refine bA_ ?_ _)); exact BK268.out), fun _ => (by (with_reducible repeat (first | refine bN_ ?_ _ | refine bD_ ?_ | refine bA_ ?_ _)); refine blk_put (cs := #[.int .i64 t262, .int .i64 0]) ?_ 1 _ rfl; (with_reducible repeat (first | refine bN_ ?_ _ | refine bD_ ?_ | refine bA_ ?_ _)); refine blk_put (cs := #[.int .i64 0, .int .i64 0]) ?_ 0 _ rfl; (with_reducible repeat (first | refine bN_ ?_ _ | refine bD_ ?_ | refine bA_ ?_ _)); exact BK269.out), fun h0_ => absurd ((hoff 42 (by kernel_rfl)).symm.trans h0_) (by decide), fun h0_ => absurd ((hoff 43 (by kernel_rfl)).symm.trans h0_) (by decide), Q_X36_, Q_X37_, Q_X38_, Q_X39_⟩
          refine steps_cons ?_ ?_
          · rintro b a w' ⟨gb268, gb269, gb270, gb271, m36_, m37_, m38_, m39_, ha, Q_BK254, Q_BK255, Q_BK256, Q_HB, Q_NB269_268, Q_NB268_269, Q_NB270_268, Q_NB268_270, Q_NB271_268, Q_NB268_271, Q_NB270_269, Q_NB269_270, Q_NB271_269, Q_NB269_271, Q_NB271_270, Q_NB270_271, Q_BK268, Q_GW268, Q_GE268, Q_NB254_268, Q_NB268_254, Q_NB255_268, Q_NB268_255, Q_NB256_268, Q_NB268_256, Q_BK269, Q_GW269, Q_GE269, Q_NB254_269, Q_NB269_254, Q_NB255_269, Q_NB269_255, Q_NB256_269, Q_NB269_256, Q_BK270, Q_GW270, Q_GE270, Q_NB254_270, Q_NB270_254, Q_NB255_270, Q_NB270_255, Q_NB256_270, Q_NB270_256, Q_BK271, Q_GW271, Q_GE271, Q_NB254_271, Q_NB271_254, Q_NB255_271, Q_NB271_255, Q_NB256_271, Q_NB271_256, Q_BK268_e40, Q_BK269_e41, Q_BK270_e42, Q_BK271_e43, Q_X36_, Q_X37_, Q_X38_, Q_X39_⟩ hb_ hon hoff
            refine ⟨_, rfl, fun K hK => ?_⟩
            have e10 : a.tmps[10]? = some (m38_) := by rw [ha]; exact putSel_on (e := (38, 10, m38_)) 22 rfl rfl (hon 38 (by kernel_rfl)) rfl
            rw [Q_X38_ (hon 38 (by kernel_rfl))] at e10
            have e55 : a.tmps[55]? = some (.agg #[.int .i64 t264, .int .i64 t265]) := by rw [ha]; exact putSel_on (e := (23, 55, .agg #[.int .i64 t264, .int .i64 t265])) 12 rfl rfl (hon 23 (by kernel_rfl)) rfl
            replace ha := Aside0.mk ha
            have BK254 := Aside0.mk Q_BK254
            have BK255 := Aside0.mk Q_BK255
            have BK256 := Aside0.mk Q_BK256
            have HB := Aside0.mk Q_HB
            have NB269_268 := Aside0.mk (Q_NB269_268 (hon 36 (by kernel_rfl)) (hon 37 (by kernel_rfl)))
            have NB268_269 := Aside0.mk (Q_NB268_269 (hon 36 (by kernel_rfl)) (hon 37 (by kernel_rfl)))
            have NB270_268 := Aside0.mk (Q_NB270_268 (hon 36 (by kernel_rfl)) (hon 38 (by kernel_rfl)))
            have NB268_270 := Aside0.mk (Q_NB268_270 (hon 36 (by kernel_rfl)) (hon 38 (by kernel_rfl)))
            have NB271_268 := Aside0.mk (Q_NB271_268 (hon 36 (by kernel_rfl)) (hon 39 (by kernel_rfl)))
            have NB268_271 := Aside0.mk (Q_NB268_271 (hon 36 (by kernel_rfl)) (hon 39 (by kernel_rfl)))
            have NB270_269 := Aside0.mk (Q_NB270_269 (hon 37 (by kernel_rfl)) (hon 38 (by kernel_rfl)))
            have NB269_270 := Aside0.mk (Q_NB269_270 (hon 37 (by kernel_rfl)) (hon 38 (by kernel_rfl)))
            have NB271_269 := Aside0.mk (Q_NB271_269 (hon 37 (by kernel_rfl)) (hon 39 (by kernel_rfl)))
            have NB269_271 := Aside0.mk (Q_NB269_271 (hon 37 (by kernel_rfl)) (hon 39 (by kernel_rfl)))
            have NB271_270 := Aside0.mk (Q_NB271_270 (hon 38 (by kernel_rfl)) (hon 39 (by kernel_rfl)))
            have NB270_271 := Aside0.mk (Q_NB270_271 (hon 38 (by kernel_rfl)) (hon 39 (by kernel_rfl)))
            have GW268 := Aside0.mk (Q_GW268 (hon 36 (by kernel_rfl)))
            have GE268 := Aside0.mk (Q_GE268 (hon 36 (by kernel_rfl)))
            have NB254_268 := Aside0.mk (Q_NB254_268 (hon 36 (by kernel_rfl)))
            have NB268_254 := Aside0.mk (Q_NB268_254 (hon 36 (by kernel_rfl)))
            have NB255_268 := Aside0.mk (Q_NB255_268 (hon 36 (by kernel_rfl)))
            have NB268_255 := Aside0.mk (Q_NB268_255 (hon 36 (by kernel_rfl)))
            have NB256_268 := Aside0.mk (Q_NB256_268 (hon 36 (by kernel_rfl)))
            have NB268_256 := Aside0.mk (Q_NB268_256 (hon 36 (by kernel_rfl)))
            have GW269 := Aside0.mk (Q_GW269 (hon 37 (by kernel_rfl)))
            have GE269 := Aside0.mk (Q_GE269 (hon 37 (by kernel_rfl)))
            have NB254_269 := Aside0.mk (Q_NB254_269 (hon 37 (by kernel_rfl)))
            have NB269_254 := Aside0.mk (Q_NB269_254 (hon 37 (by kernel_rfl)))
            have NB255_269 := Aside0.mk (Q_NB255_269 (hon 37 (by kernel_rfl)))
            have NB269_255 := Aside0.mk (Q_NB269_255 (hon 37 (by kernel_rfl)))
            have NB256_269 := Aside0.mk (Q_NB256_269 (hon 37 (by kernel_rfl)))
            have NB269_256 := Aside0.mk (Q_NB269_256 (hon 37 (by kernel_rfl)))
            have BK270 := Aside0.mk (Q_BK270 (hon 38 (by kernel_rfl)) hb_)
            have GW270 := Aside0.mk (Q_GW270 (hon 38 (by kernel_rfl)))
            have GE270 := Aside0.mk (Q_GE270 (hon 38 (by kernel_rfl)))
            have NB254_270 := Aside0.mk (Q_NB254_270 (hon 38 (by kernel_rfl)))
            have NB270_254 := Aside0.mk (Q_NB270_254 (hon 38 (by kernel_rfl)))
            have NB255_270 := Aside0.mk (Q_NB255_270 (hon 38 (by kernel_rfl)))
            have NB270_255 := Aside0.mk (Q_NB270_255 (hon 38 (by kernel_rfl)))
            have NB256_270 := Aside0.mk (Q_NB256_270 (hon 38 (by kernel_rfl)))
            have NB270_256 := Aside0.mk (Q_NB270_256 (hon 38 (by kernel_rfl)))
            have BK271 := Aside0.mk (Q_BK271 (hon 39 (by kernel_rfl)) (hoff 43 (by kernel_rfl)))
            have GW271 := Aside0.mk (Q_GW271 (hon 39 (by kernel_rfl)))
            have GE271 := Aside0.mk (Q_GE271 (hon 39 (by kernel_rfl)))
            have NB254_271 := Aside0.mk (Q_NB254_271 (hon 39 (by kernel_rfl)))
            have NB271_254 := Aside0.mk (Q_NB271_254 (hon 39 (by kernel_rfl)))
            have NB255_271 := Aside0.mk (Q_NB255_271 (hon 39 (by kernel_rfl)))
            have NB271_255 := Aside0.mk (Q_NB271_255 (hon 39 (by kernel_rfl)))
            have NB256_271 := Aside0.mk (Q_NB256_271 (hon 39 (by kernel_rfl)))
            have NB271_256 := Aside0.mk (Q_NB271_256 (hon 39 (by kernel_rfl)))
            have BK268 := Aside0.mk (Q_BK268_e40 (hon 40 (by kernel_rfl)))
            have BK269 := Aside0.mk (Q_BK269_e41 (hon 41 (by kernel_rfl)))
            have hs71 : w'.cell? ⟨gb270, 0, none⟩ = some (.int .i64 0) := (blk_cell BK270.out 0).trans rfl
            have hfs71 := blk_frozen BK270.out 0
            have hns71_0 := NB254_270.out
            have hns71_1 := NB255_270.out
            have hns71_2 := NB256_270.out
            have hns71_3 := NB268_270.out
            have hns71_4 := NB269_270.out
            have hns71_6 := NB271_270.out
            have hms71_0 := NB270_254.out
            have hms71_1 := NB270_255.out
            have hms71_2 := NB270_256.out
            have hms71_3 := NB270_268.out
            have hms71_4 := NB270_269.out
            have hms71_6 := NB270_271.out
            have hs72 : w'.cell? ⟨gb270, 1, none⟩ = some (.int .i64 0) := (blk_cell BK270.out 1).trans rfl
            have hfs72 := blk_frozen BK270.out 1
            have hns72_0 := NB254_270.out
            have hns72_1 := NB255_270.out
            have hns72_2 := NB256_270.out
            have hns72_3 := NB268_270.out
            have hns72_4 := NB269_270.out
            have hns72_6 := NB271_270.out
            have hms72_0 := NB270_254.out
            have hms72_1 := NB270_255.out
            have hms72_2 := NB270_256.out
            have hms72_3 := NB270_268.out
            have hms72_4 := NB270_269.out
            have hms72_6 := NB270_271.out
            refine skip_ (w1 := ?_) (by rfl) rfl ?_ ?_
            rotate_left
            · go_simp
              rfl
            refine hK.out _ _ ⟨gb268, gb269, gb270, gb271, m36_, m37_, m38_, m39_, (by rw [ha.out]; exact putSel_none (v := undef) rfl), (by (with_reducible repeat (first | refine bN_ ?_ _ | refine bD_ ?_ | refine bA_ ?_ _)); refine blk_far ?_ NB254_270.out _; (with_reducible repeat (first | refine bN_ ?_ _ | refine bD_ ?_ | refine bA_ ?_ _)); refine blk_far ?_ NB254_270.out _; (with_reducible repeat (first | refine bN_ ?_ _ | refine bD_ ?_ | refine bA_ ?_ _)); exact BK254.out), (by (with_reducible repeat (first | refine bN_ ?_ _ | refine bD_ ?_ | refine bA_ ?_ _)); refine blk_far ?_ NB255_270.out _; (with_reducible repeat (first | refine bN_ ?_ _ | refine bD_ ?_ | refine bA_ ?_ _)); refine blk_far ?_ NB255_270.out _; (with_reducible repeat (first | refine bN_ ?_ _ | refine bD_ ?_ | refine bA_ ?_ _)); exact BK255.out), (by (with_reducible repeat (first | refine bN_ ?_ _ | refine bD_ ?_ | refine bA_ ?_ _)); refine blk_far ?_ NB256_270.out _; (with_reducible repeat (first | refine bN_ ?_ _ | refine bD_ ?_ | refine bA_ ?_ _)); refine blk_far ?_ NB256_270.out _; (with_reducible repeat (first | refine bN_ ?_ _ | refine bD_ ?_ | refine bA_ ?_ _)); exact BK256.out), (by repeat (first | (with_reducible first | exact HB.out | apply lA_ | apply lN_ | apply lD_ | refine lS_ ?_ GE254.out | refine lS_ ?_ GE255.out | refine lS_ ?_ GE256.out | refine lS_ ?_ GE268.out | refine lS_ ?_ GE269.out | refine lS_ ?_ GE270.out | refine lS_ ?_ GE271.out) | exact HB.out)), fun _ _ => NB269_268.out, fun _ _ => NB268_269.out, fun _ _ => NB270_268.out, fun _ _ => NB268_270.out, fun _ _ => NB271_268.out, fun _ _ => NB268_271.out, fun _ _ => NB270_269.out, fun _ _ => NB269_270.out, fun _ _ => NB271_269.out, fun _ _ => NB269_271.out, fun _ _ => NB271_270.out, fun _ _ => NB270_271.out, fun _ h1_ => absurd ((hon 40 (by kernel_rfl)).symm.trans h1_) (by decide), fun _ => GW268.out, fun _ => GE268.out, fun _ => NB254_268.out, fun _ => NB268_254.out, fun _ => NB255_268.out, fun _ => NB268_255.out, fun _ => NB256_268.out, fun _ => NB268_256.out, fun _ h1_ => absurd ((hon 41 (by kernel_rfl)).symm.trans h1_) (by decide), fun _ => GW269.out, fun _ => GE269.out, fun _ => NB254_269.out, fun _ => NB269_254.out, fun _ => NB255_269.out, fun _ => NB269_255.out, fun _ => NB256_269.out, fun _ => NB269_256.out, fun _ h1_ => absurd ((up_self b 42).symm.trans h1_) (by decide), fun _ => GW270.out, fun _ => GE270.out, fun _ => NB254_270.out, fun _ => NB270_254.out, fun _ => NB255_270.out, fun _ => NB270_255.out, fun _ => NB256_270.out, fun _ => NB270_256.out, fun _ _ => (by (with_reducible repeat (first | refine bN_ ?_ _ | refine bD_ ?_ | refine bA_ ?_ _)); refine blk_far ?_ NB271_270.out _; (with_reducible repeat (first | refine bN_ ?_ _ | refine bD_ ?_ | refine bA_ ?_ _)); refine blk_far ?_ NB271_270.out _; (with_reducible repeat (first | refine bN_ ?_ _ | refine bD_ ?_ | refine bA_ ?_ _)); exact BK271.out), fun _ => GW271.out, fun _ => GE271.out, fun _ => NB254_271.out, fun _ => NB271_254.out, fun _ => NB255_271.out, fun _ => NB271_255.out, fun _ => NB256_271.out, fun _ => NB271_256.out, fun _ => (by (with_reducible repeat (first | refine bN_ ?_ _ | refine bD_ ?_ | refine bA_ ?_ _)); refine blk_far ?_ NB268_270.out _; (with_reducible repeat (first | refine bN_ ?_ _ | refine bD_ ?_ | refine bA_ ?_ _)); refine blk_far ?_ NB268_270.out _; (with_reducible repeat (first | refine bN_ ?_ _ | refine bD_ ?_ | refine bA_ ?_ _)); exact BK268.out), fun _ => (by (with_reducible repeat (first | refine bN_ ?_ _ | refine bD_ ?_ | refine bA_ ?_ _)); refine blk_far ?_ NB269_270.out _; (with_reducible repeat (first | refine bN_ ?_ _ | refine bD_ ?_ | refine bA_ ?_ _)); refine blk_far ?_ NB269_270.out _; (with_reducible repeat (first | refine bN_ ?_ _ | refine bD_ ?_ | refine bA_ ?_ _)); exact BK269.out), fun _ => (by (with_reducible repeat (first | refine bN_ ?_ _ | refine bD_ ?_ | refine bA_ ?_ _)); refine blk_put (cs := #[.int .i64 t264, .int .i64 0]) ?_ 1 _ rfl; (with_reducible repeat (first | refine bN_ ?_ _ | refine bD_ ?_ | refine bA_ ?_ _)); refine blk_put (cs := #[.int .i64 0, .int .i64 0]) ?_ 0 _ rfl; (with_reducible repeat (first | refine bN_ ?_ _ | refine bD_ ?_ | refine bA_ ?_ _)); exact BK270.out), fun h0_ => absurd ((hoff 43 (by kernel_rfl)).symm.trans h0_) (by decide), Q_X36_, Q_X37_, Q_X38_, Q_X39_⟩
          refine steps_cons ?_ ?_
          · rintro b a w' ⟨gb268, gb269, gb270, gb271, m36_, m37_, m38_, m39_, ha, Q_BK254, Q_BK255, Q_BK256, Q_HB, Q_NB269_268, Q_NB268_269, Q_NB270_268, Q_NB268_270, Q_NB271_268, Q_NB268_271, Q_NB270_269, Q_NB269_270, Q_NB271_269, Q_NB269_271, Q_NB271_270, Q_NB270_271, Q_BK268, Q_GW268, Q_GE268, Q_NB254_268, Q_NB268_254, Q_NB255_268, Q_NB268_255, Q_NB256_268, Q_NB268_256, Q_BK269, Q_GW269, Q_GE269, Q_NB254_269, Q_NB269_254, Q_NB255_269, Q_NB269_255, Q_NB256_269, Q_NB269_256, Q_BK270, Q_GW270, Q_GE270, Q_NB254_270, Q_NB270_254, Q_NB255_270, Q_NB270_255, Q_NB256_270, Q_NB270_256, Q_BK271, Q_GW271, Q_GE271, Q_NB254_271, Q_NB271_254, Q_NB255_271, Q_NB271_255, Q_NB256_271, Q_NB271_256, Q_BK268_e40, Q_BK269_e41, Q_BK270_e42, Q_BK271_e43, Q_X36_, Q_X37_, Q_X38_, Q_X39_⟩ hb_ hon hoff
            refine ⟨_, rfl, fun K hK => ?_⟩
            have e11 : a.tmps[11]? = some (m39_) := by rw [ha]; exact putSel_on (e := (39, 11, m39_)) 23 rfl rfl (hon 39 (by kernel_rfl)) rfl
            rw [Q_X39_ (hon 39 (by kernel_rfl))] at e11
            have e67 : a.tmps[67]? = some (.agg #[.int .i64 t266, .int .i64 t267]) := by rw [ha]; exact putSel_on (e := (35, 67, .agg #[.int .i64 t266, .int .i64 t267])) 19 rfl rfl (hon 35 (by kernel_rfl)) rfl
            replace ha := Aside0.mk ha
            have BK254 := Aside0.mk Q_BK254
            have BK255 := Aside0.mk Q_BK255
            have BK256 := Aside0.mk Q_BK256
            have HB := Aside0.mk Q_HB
            have NB269_268 := Aside0.mk (Q_NB269_268 (hon 36 (by kernel_rfl)) (hon 37 (by kernel_rfl)))
            have NB268_269 := Aside0.mk (Q_NB268_269 (hon 36 (by kernel_rfl)) (hon 37 (by kernel_rfl)))
            have NB270_268 := Aside0.mk (Q_NB270_268 (hon 36 (by kernel_rfl)) (hon 38 (by kernel_rfl)))
            have NB268_270 := Aside0.mk (Q_NB268_270 (hon 36 (by kernel_rfl)) (hon 38 (by kernel_rfl)))
            have NB271_268 := Aside0.mk (Q_NB271_268 (hon 36 (by kernel_rfl)) (hon 39 (by kernel_rfl)))
            have NB268_271 := Aside0.mk (Q_NB268_271 (hon 36 (by kernel_rfl)) (hon 39 (by kernel_rfl)))
            have NB270_269 := Aside0.mk (Q_NB270_269 (hon 37 (by kernel_rfl)) (hon 38 (by kernel_rfl)))
            have NB269_270 := Aside0.mk (Q_NB269_270 (hon 37 (by kernel_rfl)) (hon 38 (by kernel_rfl)))
            have NB271_269 := Aside0.mk (Q_NB271_269 (hon 37 (by kernel_rfl)) (hon 39 (by kernel_rfl)))
            have NB269_271 := Aside0.mk (Q_NB269_271 (hon 37 (by kernel_rfl)) (hon 39 (by kernel_rfl)))
            have NB271_270 := Aside0.mk (Q_NB271_270 (hon 38 (by kernel_rfl)) (hon 39 (by kernel_rfl)))
            have NB270_271 := Aside0.mk (Q_NB270_271 (hon 38 (by kernel_rfl)) (hon 39 (by kernel_rfl)))
            have GW268 := Aside0.mk (Q_GW268 (hon 36 (by kernel_rfl)))
            have GE268 := Aside0.mk (Q_GE268 (hon 36 (by kernel_rfl)))
            have NB254_268 := Aside0.mk (Q_NB254_268 (hon 36 (by kernel_rfl)))
            have NB268_254 := Aside0.mk (Q_NB268_254 (hon 36 (by kernel_rfl)))
            have NB255_268 := Aside0.mk (Q_NB255_268 (hon 36 (by kernel_rfl)))
            have NB268_255 := Aside0.mk (Q_NB268_255 (hon 36 (by kernel_rfl)))
            have NB256_268 := Aside0.mk (Q_NB256_268 (hon 36 (by kernel_rfl)))
            have NB268_256 := Aside0.mk (Q_NB268_256 (hon 36 (by kernel_rfl)))
            have GW269 := Aside0.mk (Q_GW269 (hon 37 (by kernel_rfl)))
            have GE269 := Aside0.mk (Q_GE269 (hon 37 (by kernel_rfl)))
            have NB254_269 := Aside0.mk (Q_NB254_269 (hon 37 (by kernel_rfl)))
            have NB269_254 := Aside0.mk (Q_NB269_254 (hon 37 (by kernel_rfl)))
            have NB255_269 := Aside0.mk (Q_NB255_269 (hon 37 (by kernel_rfl)))
            have NB269_255 := Aside0.mk (Q_NB269_255 (hon 37 (by kernel_rfl)))
            have NB256_269 := Aside0.mk (Q_NB256_269 (hon 37 (by kernel_rfl)))
            have NB269_256 := Aside0.mk (Q_NB269_256 (hon 37 (by kernel_rfl)))
            have GW270 := Aside0.mk (Q_GW270 (hon 38 (by kernel_rfl)))
            have GE270 := Aside0.mk (Q_GE270 (hon 38 (by kernel_rfl)))
            have NB254_270 := Aside0.mk (Q_NB254_270 (hon 38 (by kernel_rfl)))
            have NB270_254 := Aside0.mk (Q_NB270_254 (hon 38 (by kernel_rfl)))
            have NB255_270 := Aside0.mk (Q_NB255_270 (hon 38 (by kernel_rfl)))
            have NB270_255 := Aside0.mk (Q_NB270_255 (hon 38 (by kernel_rfl)))
            have NB256_270 := Aside0.mk (Q_NB256_270 (hon 38 (by kernel_rfl)))
            have NB270_256 := Aside0.mk (Q_NB270_256 (hon 38 (by kernel_rfl)))
            have BK271 := Aside0.mk (Q_BK271 (hon 39 (by kernel_rfl)) hb_)
            have GW271 := Aside0.mk (Q_GW271 (hon 39 (by kernel_rfl)))
            have GE271 := Aside0.mk (Q_GE271 (hon 39 (by kernel_rfl)))
            have NB254_271 := Aside0.mk (Q_NB254_271 (hon 39 (by kernel_rfl)))
            have NB271_254 := Aside0.mk (Q_NB271_254 (hon 39 (by kernel_rfl)))
            have NB255_271 := Aside0.mk (Q_NB255_271 (hon 39 (by kernel_rfl)))
            have NB271_255 := Aside0.mk (Q_NB271_255 (hon 39 (by kernel_rfl)))
            have NB256_271 := Aside0.mk (Q_NB256_271 (hon 39 (by kernel_rfl)))
            have NB271_256 := Aside0.mk (Q_NB271_256 (hon 39 (by kernel_rfl)))
            have BK268 := Aside0.mk (Q_BK268_e40 (hon 40 (by kernel_rfl)))
            have BK269 := Aside0.mk (Q_BK269_e41 (hon 41 (by kernel_rfl)))
            have BK270 := Aside0.mk (Q_BK270_e42 (hon 42 (by kernel_rfl)))
            have hs73 : w'.cell? ⟨gb271, 0, none⟩ = some (.int .i64 0) := (blk_cell BK271.out 0).trans rfl
            have hfs73 := blk_frozen BK271.out 0
            have hns73_0 := NB254_271.out
            have hns73_1 := NB255_271.out
            have hns73_2 := NB256_271.out
            have hns73_3 := NB268_271.out
            have hns73_4 := NB269_271.out
            have hns73_5 := NB270_271.out
            have hms73_0 := NB271_254.out
            have hms73_1 := NB271_255.out
            have hms73_2 := NB271_256.out
            have hms73_3 := NB271_268.out
            have hms73_4 := NB271_269.out
            have hms73_5 := NB271_270.out
            have hs74 : w'.cell? ⟨gb271, 1, none⟩ = some (.int .i64 0) := (blk_cell BK271.out 1).trans rfl
            have hfs74 := blk_frozen BK271.out 1
            have hns74_0 := NB254_271.out
            have hns74_1 := NB255_271.out
            have hns74_2 := NB256_271.out
            have hns74_3 := NB268_271.out
            have hns74_4 := NB269_271.out
            have hns74_5 := NB270_271.out
            have hms74_0 := NB271_254.out
            have hms74_1 := NB271_255.out
            have hms74_2 := NB271_256.out
            have hms74_3 := NB271_268.out
            have hms74_4 := NB271_269.out
            have hms74_5 := NB271_270.out
            refine skip_ (w1 := ?_) (by rfl) rfl ?_ ?_
            rotate_left
            · go_simp
              rfl
            refine hK.out _ _ ⟨gb268, gb269, gb270, gb271, m36_, m37_, m38_, m39_, (by rw [ha.out]; exact putSel_none (v := undef) rfl), (by (with_reducible repeat (first | refine bN_ ?_ _ | refine bD_ ?_ | refine bA_ ?_ _)); refine blk_far ?_ NB254_271.out _; (with_reducible repeat (first | refine bN_ ?_ _ | refine bD_ ?_ | refine bA_ ?_ _)); refine blk_far ?_ NB254_271.out _; (with_reducible repeat (first | refine bN_ ?_ _ | refine bD_ ?_ | refine bA_ ?_ _)); exact BK254.out), (by (with_reducible repeat (first | refine bN_ ?_ _ | refine bD_ ?_ | refine bA_ ?_ _)); refine blk_far ?_ NB255_271.out _; (with_reducible repeat (first | refine bN_ ?_ _ | refine bD_ ?_ | refine bA_ ?_ _)); refine blk_far ?_ NB255_271.out _; (with_reducible repeat (first | refine bN_ ?_ _ | refine bD_ ?_ | refine bA_ ?_ _)); exact BK255.out), (by (with_reducible repeat (first | refine bN_ ?_ _ | refine bD_ ?_ | refine bA_ ?_ _)); refine blk_far ?_ NB256_271.out _; (with_reducible repeat (first | refine bN_ ?_ _ | refine bD_ ?_ | refine bA_ ?_ _)); refine blk_far ?_ NB256_271.out _; (with_reducible repeat (first | refine bN_ ?_ _ | refine bD_ ?_ | refine bA_ ?_ _)); exact BK256.out), (by repeat (first | (with_reducible first | exact HB.out | apply lA_ | apply lN_ | apply lD_ | refine lS_ ?_ GE254.out | refine lS_ ?_ GE255.out | refine lS_ ?_ GE256.out | refine lS_ ?_ GE268.out | refine lS_ ?_ GE269.out | refine lS_ ?_ GE270.out | refine lS_ ?_ GE271.out) | exact HB.out)), fun _ _ => NB269_268.out, fun _ _ => NB268_269.out, fun _ _ => NB270_268.out, fun _ _ => NB268_270.out, fun _ _ => NB271_268.out, fun _ _ => NB268_271.out, fun _ _ => NB270_269.out, fun _ _ => NB269_270.out, fun _ _ => NB271_269.out, fun _ _ => NB269_271.out, fun _ _ => NB271_270.out, fun _ _ => NB270_271.out, fun _ h1_ => absurd ((hon 40 (by kernel_rfl)).symm.trans h1_) (by decide), fun _ => GW268.out, fun _ => GE268.out, fun _ => NB254_268.out, fun _ => NB268_254.out, fun _ => NB255_268.out, fun _ => NB268_255.out, fun _ => NB256_268.out, fun _ => NB268_256.out, fun _ h1_ => absurd ((hon 41 (by kernel_rfl)).symm.trans h1_) (by decide), fun _ => GW269.out, fun _ => GE269.out, fun _ => NB254_269.out, fun _ => NB269_254.out, fun _ => NB255_269.out, fun _ => NB269_255.out, fun _ => NB256_269.out, fun _ => NB269_256.out, fun _ h1_ => absurd ((hon 42 (by kernel_rfl)).symm.trans h1_) (by decide), fun _ => GW270.out, fun _ => GE270.out, fun _ => NB254_270.out, fun _ => NB270_254.out, fun _ => NB255_270.out, fun _ => NB270_255.out, fun _ => NB256_270.out, fun _ => NB270_256.out, fun _ h1_ => absurd ((up_self b 43).symm.trans h1_) (by decide), fun _ => GW271.out, fun _ => GE271.out, fun _ => NB254_271.out, fun _ => NB271_254.out, fun _ => NB255_271.out, fun _ => NB271_255.out, fun _ => NB256_271.out, fun _ => NB271_256.out, fun _ => (by (with_reducible repeat (first | refine bN_ ?_ _ | refine bD_ ?_ | refine bA_ ?_ _)); refine blk_far ?_ NB268_271.out _; (with_reducible repeat (first | refine bN_ ?_ _ | refine bD_ ?_ | refine bA_ ?_ _)); refine blk_far ?_ NB268_271.out _; (with_reducible repeat (first | refine bN_ ?_ _ | refine bD_ ?_ | refine bA_ ?_ _)); exact BK268.out), fun _ => (by (with_reducible repeat (first | refine bN_ ?_ _ | refine bD_ ?_ | refine bA_ ?_ _)); refine blk_far ?_ NB269_271.out _; (with_reducible repeat (first | refine bN_ ?_ _ | refine bD_ ?_ | refine bA_ ?_ _)); refine blk_far ?_ NB269_271.out _; (with_reducible repeat (first | refine bN_ ?_ _ | refine bD_ ?_ | refine bA_ ?_ _)); exact BK269.out), fun _ => (by (with_reducible repeat (first | refine bN_ ?_ _ | refine bD_ ?_ | refine bA_ ?_ _)); refine blk_far ?_ NB270_271.out _; (with_reducible repeat (first | refine bN_ ?_ _ | refine bD_ ?_ | refine bA_ ?_ _)); refine blk_far ?_ NB270_271.out _; (with_reducible repeat (first | refine bN_ ?_ _ | refine bD_ ?_ | refine bA_ ?_ _)); exact BK270.out), fun _ => (by (with_reducible repeat (first | refine bN_ ?_ _ | refine bD_ ?_ | refine bA_ ?_ _)); refine blk_put (cs := #[.int .i64 t266, .int .i64 0]) ?_ 1 _ rfl; (with_reducible repeat (first | refine bN_ ?_ _ | refine bD_ ?_ | refine bA_ ?_ _)); refine blk_put (cs := #[.int .i64 0, .int .i64 0]) ?_ 0 _ rfl; (with_reducible repeat (first | refine bN_ ?_ _ | refine bD_ ?_ | refine bA_ ?_ _)); exact BK271.out), Q_X36_, Q_X37_, Q_X38_, Q_X39_⟩
          exact steps_nil
        rintro b a w74 hall ⟨gb268, gb269, gb270, gb271, m36_, m37_, m38_, m39_, ha, Q_BK254, Q_BK255, Q_BK256, Q_HB, Q_NB269_268, Q_NB268_269, Q_NB270_268, Q_NB268_270, Q_NB271_268, Q_NB268_271, Q_NB270_269, Q_NB269_270, Q_NB271_269, Q_NB269_271, Q_NB271_270, Q_NB270_271, Q_BK268, Q_GW268, Q_GE268, Q_NB254_268, Q_NB268_254, Q_NB255_268, Q_NB268_255, Q_NB256_268, Q_NB268_256, Q_BK269, Q_GW269, Q_GE269, Q_NB254_269, Q_NB269_254, Q_NB255_269, Q_NB269_255, Q_NB256_269, Q_NB269_256, Q_BK270, Q_GW270, Q_GE270, Q_NB254_270, Q_NB270_254, Q_NB255_270, Q_NB270_255, Q_NB256_270, Q_NB270_256, Q_BK271, Q_GW271, Q_GE271, Q_NB254_271, Q_NB271_254, Q_NB255_271, Q_NB271_255, Q_NB256_271, Q_NB271_256, Q_BK268_e40, Q_BK269_e41, Q_BK270_e42, Q_BK271_e43, Q_X36_, Q_X37_, Q_X38_, Q_X39_⟩
        clear BK254 BK255 BK256 HB
        have hb2_ := hall 2 (by kernel_rfl)
        have hb4_ := hall 4 (by kernel_rfl)
        have hb5_ := hall 5 (by kernel_rfl)
        have hb8_ := hall 8 (by kernel_rfl)
        have hb10_ := hall 10 (by kernel_rfl)
        have hb11_ := hall 11 (by kernel_rfl)
        have hb13_ := hall 13 (by kernel_rfl)
        have hb14_ := hall 14 (by kernel_rfl)
        have hb17_ := hall 17 (by kernel_rfl)
        have hb19_ := hall 19 (by kernel_rfl)
        have hb21_ := hall 21 (by kernel_rfl)
        have hb22_ := hall 22 (by kernel_rfl)
        have hb23_ := hall 23 (by kernel_rfl)
        have hb26_ := hall 26 (by kernel_rfl)
        have hb28_ := hall 28 (by kernel_rfl)
        have hb29_ := hall 29 (by kernel_rfl)
        have hb31_ := hall 31 (by kernel_rfl)
        have hb33_ := hall 33 (by kernel_rfl)
        have hb34_ := hall 34 (by kernel_rfl)
        have hb35_ := hall 35 (by kernel_rfl)
        have hb36_ := hall 36 (by kernel_rfl)
        have hb37_ := hall 37 (by kernel_rfl)
        have hb38_ := hall 38 (by kernel_rfl)
        have hb39_ := hall 39 (by kernel_rfl)
        have hb40_ := hall 40 (by kernel_rfl)
        have hb41_ := hall 41 (by kernel_rfl)
        have hb42_ := hall 42 (by kernel_rfl)
        have hb43_ := hall 43 (by kernel_rfl)
        subst ha
        obtain rfl := Q_X36_ hb36_
        obtain rfl := Q_X37_ hb37_
        obtain rfl := Q_X38_ hb38_
        obtain rfl := Q_X39_ hb39_
        simp only [putSel, hb2_, hb4_, hb5_, hb8_, hb10_, hb11_, hb13_, hb14_, hb17_, hb19_, hb21_, hb22_, hb23_, hb26_, hb28_, hb29_, hb31_, hb33_, hb34_, hb35_, hb36_, hb37_, hb38_, hb39_, hb40_, hb41_, hb42_, hb43_, if_true, Act.put, tS_, tZ_, tC_]
        have BK254 := Aside0.mk Q_BK254
        clear Q_BK254
        have BK255 := Aside0.mk Q_BK255
        clear Q_BK255
        have BK256 := Aside0.mk Q_BK256
        clear Q_BK256
        have HB := Aside0.mk Q_HB
        clear Q_HB
        have NB269_268 := Aside0.mk (Q_NB269_268 hb36_ hb37_)
        clear Q_NB269_268
        have NB268_269 := Aside0.mk (Q_NB268_269 hb36_ hb37_)
        clear Q_NB268_269
        have NB270_268 := Aside0.mk (Q_NB270_268 hb36_ hb38_)
        clear Q_NB270_268
        have NB268_270 := Aside0.mk (Q_NB268_270 hb36_ hb38_)
        clear Q_NB268_270
        have NB271_268 := Aside0.mk (Q_NB271_268 hb36_ hb39_)
        clear Q_NB271_268
        have NB268_271 := Aside0.mk (Q_NB268_271 hb36_ hb39_)
        clear Q_NB268_271
        have NB270_269 := Aside0.mk (Q_NB270_269 hb37_ hb38_)
        clear Q_NB270_269
        have NB269_270 := Aside0.mk (Q_NB269_270 hb37_ hb38_)
        clear Q_NB269_270
        have NB271_269 := Aside0.mk (Q_NB271_269 hb37_ hb39_)
        clear Q_NB271_269
        have NB269_271 := Aside0.mk (Q_NB269_271 hb37_ hb39_)
        clear Q_NB269_271
        have NB271_270 := Aside0.mk (Q_NB271_270 hb38_ hb39_)
        clear Q_NB271_270
        have NB270_271 := Aside0.mk (Q_NB270_271 hb38_ hb39_)
        clear Q_NB270_271 Q_BK268
        have GW268 := Aside0.mk (Q_GW268 hb36_)
        clear Q_GW268
        have GE268 := Aside0.mk (Q_GE268 hb36_)
        clear Q_GE268
        have NB254_268 := Aside0.mk (Q_NB254_268 hb36_)
        clear Q_NB254_268
        have NB268_254 := Aside0.mk (Q_NB268_254 hb36_)
        clear Q_NB268_254
        have NB255_268 := Aside0.mk (Q_NB255_268 hb36_)
        clear Q_NB255_268
        have NB268_255 := Aside0.mk (Q_NB268_255 hb36_)
        clear Q_NB268_255
        have NB256_268 := Aside0.mk (Q_NB256_268 hb36_)
        clear Q_NB256_268
        have NB268_256 := Aside0.mk (Q_NB268_256 hb36_)
        clear Q_NB268_256 Q_BK269
        have GW269 := Aside0.mk (Q_GW269 hb37_)
        clear Q_GW269
        have GE269 := Aside0.mk (Q_GE269 hb37_)
        clear Q_GE269
        have NB254_269 := Aside0.mk (Q_NB254_269 hb37_)
        clear Q_NB254_269
        have NB269_254 := Aside0.mk (Q_NB269_254 hb37_)
        clear Q_NB269_254
        have NB255_269 := Aside0.mk (Q_NB255_269 hb37_)
        clear Q_NB255_269
        have NB269_255 := Aside0.mk (Q_NB269_255 hb37_)
        clear Q_NB269_255
        have NB256_269 := Aside0.mk (Q_NB256_269 hb37_)
        clear Q_NB256_269
        have NB269_256 := Aside0.mk (Q_NB269_256 hb37_)
        clear Q_NB269_256 Q_BK270
        have GW270 := Aside0.mk (Q_GW270 hb38_)
        clear Q_GW270
        have GE270 := Aside0.mk (Q_GE270 hb38_)
        clear Q_GE270
        have NB254_270 := Aside0.mk (Q_NB254_270 hb38_)
        clear Q_NB254_270
        have NB270_254 := Aside0.mk (Q_NB270_254 hb38_)
        clear Q_NB270_254
        have NB255_270 := Aside0.mk (Q_NB255_270 hb38_)
        clear Q_NB255_270
        have NB270_255 := Aside0.mk (Q_NB270_255 hb38_)
        clear Q_NB270_255
        have NB256_270 := Aside0.mk (Q_NB256_270 hb38_)
        clear Q_NB256_270
        have NB270_256 := Aside0.mk (Q_NB270_256 hb38_)
        clear Q_NB270_256 Q_BK271
        have GW271 := Aside0.mk (Q_GW271 hb39_)
        clear Q_GW271
        have GE271 := Aside0.mk (Q_GE271 hb39_)
        clear Q_GE271
        have NB254_271 := Aside0.mk (Q_NB254_271 hb39_)
        clear Q_NB254_271
        have NB271_254 := Aside0.mk (Q_NB271_254 hb39_)
        clear Q_NB271_254
        have NB255_271 := Aside0.mk (Q_NB255_271 hb39_)
        clear Q_NB255_271
        have NB271_255 := Aside0.mk (Q_NB271_255 hb39_)
        clear Q_NB271_255
        have NB256_271 := Aside0.mk (Q_NB256_271 hb39_)
        clear Q_NB256_271
        have NB271_256 := Aside0.mk (Q_NB271_256 hb39_)
        clear Q_NB271_256
        have BK268 := Aside0.mk (Q_BK268_e40 hb40_)
        clear Q_BK268_e40
        have BK269 := Aside0.mk (Q_BK269_e41 hb41_)
        clear Q_BK269_e41
        have BK270 := Aside0.mk (Q_BK270_e42 hb42_)
        clear Q_BK270_e42
        have BK271 := Aside0.mk (Q_BK271_e43 hb43_)
        clear Q_BK271_e43 hall hb2_ hb4_ hb5_ hb8_ hb10_ hb11_ hb13_ hb14_ hb17_ hb19_ hb21_ hb22_ hb23_ hb26_ hb28_ hb29_ hb31_ hb33_ hb34_ hb35_ hb36_ hb37_ hb38_ hb39_ hb40_ hb41_ hb42_ hb43_
        try go_wp2
        have n0_ := Aside0.mk (blk_drew BK254.out)
        have n1_ := Aside0.mk (blk_drew BK255.out)
        have n2_ := Aside0.mk (blk_drew BK256.out)
        have n3_ := Aside0.mk (blk_drew BK268.out)
        have n4_ := Aside0.mk (blk_drew BK269.out)
        have n5_ := Aside0.mk (blk_drew BK270.out)
        have n6_ := Aside0.mk (blk_drew BK271.out)
        have n7_ := Aside0.mk (lD_ HB.out)
        clear BK254 BK255 BK256 BK268 BK269 BK270 BK271 HB
        have BK254 := n0_; have BK255 := n1_; have BK256 := n2_; have BK268 := n3_; have BK269 := n4_; have BK270 := n5_; have BK271 := n6_; have HB := n7_
        clear n0_ n1_ n2_ n3_ n4_ n5_ n6_ n7_
        refine start_ (n := 24) (S := fun w' => w'.cell? ⟨gb268, 0, none⟩ = some (.int .i64 t260) ∧ w'.cell? ⟨gb268, 1, none⟩ = some (.int .i64 t261) ∧ w'.cell? ⟨gb269, 0, none⟩ = some (.int .i64 t262) ∧ w'.cell? ⟨gb269, 1, none⟩ = some (.int .i64 t263) ∧ w'.cell? ⟨gb270, 0, none⟩ = some (.int .i64 t264) ∧ w'.cell? ⟨gb270, 1, none⟩ = some (.int .i64 t265) ∧ w'.cell? ⟨gb271, 0, none⟩ = some (.int .i64 t266) ∧ w'.cell? ⟨gb271, 1, none⟩ = some (.int .i64 t267)) (ds := []) #[false, false, false, false, false, false, false, false, false, false, false, false, false, false, false, false, false, false, false, false, false, false, false, false] (by kernel_rfl) rfl rfl ⟨(blk_cell BK268.out 0).trans rfl, (blk_cell BK268.out 1).trans rfl, (blk_cell BK269.out 0).trans rfl, (blk_cell BK269.out 1).trans rfl, (blk_cell BK270.out 0).trans rfl, (blk_cell BK270.out 1).trans rfl, (blk_cell BK271.out 0).trans rfl, (blk_cell BK271.out 1).trans rfl⟩ (fun hHeld => ?_); refine with_tabW affine_Box.tab12 affine_Box.bits12 (fun HT_ HW_ => ?_)
        generalize w74.drew = w75 at BK254 BK255 BK256 BK268 BK269 BK270 BK271 HB hHeld ⊢
        refine pure_ (i := 0) (N := some 68) (v := ?_) (a' := ?_) #[true, false, false, false, false, false, false, false, false, false, false, false, false, false, false, false, false, false, false, false, false, false, false, false] rfl rfl (any_of HT_.out (by kernel_rfl)) (fun _ _ _ h => h) (Or.inl ⟨by rfl, ?_⟩) ?_ ?_
        rotate_left
        · intro w'
          go_simp
          with_reducible rfl
        rotate_left
        · simp only [Act.put, tS_, tZ_, tC_, i64_w, i32_w]
          rfl
        refine pure_ (i := 1) (N := some 69) (v := ?_) (a' := ?_) #[true, true, false, false, false, false, false, false, false, false, false, false, false, false, false, false, false, false, false, false, false, false, false, false] rfl rfl (any_of HT_.out (by kernel_rfl)) (fun _ _ _ h => h) (Or.inl ⟨by rfl, ?_⟩) ?_ ?_
        rotate_left
        · intro w'
          go_simp
          with_reducible rfl
        rotate_left
        · simp only [Act.put, tS_, tZ_, tC_, i64_w, i32_w]
          rfl
        refine pure_ (i := 3) (N := some 71) (v := ?_) (a' := ?_) #[true, true, false, true, false, false, false, false, false, false, false, false, false, false, false, false, false, false, false, false, false, false, false, false] rfl rfl (any_of HT_.out (by kernel_rfl)) (fun _ _ _ h => h) (Or.inl ⟨by rfl, ?_⟩) ?_ ?_
        rotate_left
        · intro w'
          go_simp
          with_reducible rfl
        rotate_left
        · simp only [Act.put, tS_, tZ_, tC_, i64_w, i32_w]
          rfl
        refine pure_ (i := 5) (N := some 73) (v := ?_) (a' := ?_) #[true, true, false, true, false, true, false, false, false, false, false, false, false, false, false, false, false, false, false, false, false, false, false, false] rfl rfl (any_of HT_.out (by kernel_rfl)) (fun _ _ _ h => h) (Or.inl ⟨by rfl, ?_⟩) ?_ ?_
        rotate_left
        · intro w'
          go_simp
          with_reducible rfl
        rotate_left
        · simp only [Act.put, tS_, tZ_, tC_, i64_w, i32_w]
          rfl
        refine pure_ (i := 7) (N := some 75) (v := ?_) (a' := ?_) #[true, true, false, true, false, true, false, true, false, false, false, false, false, false, false, false, false, false, false, false, false, false, false, false] rfl rfl (any_of HT_.out (by kernel_rfl)) (fun _ _ _ h => h) (Or.inl ⟨by rfl, ?_⟩) ?_ ?_
        rotate_left
        · intro w'
          go_simp
          with_reducible rfl
        rotate_left
        · simp only [Act.put, tS_, tZ_, tC_, i64_w, i32_w]
          rfl
        refine pure_ (i := 11) (N := some 79) (v := ?_) (a' := ?_) #[true, true, false, true, false, true, false, true, false, false, false, true, false, false, false, false, false, false, false, false, false, false, false, false] rfl rfl (any_of HT_.out (by kernel_rfl)) (fun _ _ _ h => h) (Or.inl ⟨by rfl, ?_⟩) ?_ ?_
        rotate_left
        · intro w'
          go_simp
          with_reducible rfl
        rotate_left
        · simp only [Act.put, tS_, tZ_, tC_, i64_w, i32_w]
          rfl
        refine pure_ (i := 12) (N := some 80) (v := ?_) (a' := ?_) #[true, true, false, true, false, true, false, true, false, false, false, true, true, false, false, false, false, false, false, false, false, false, false, false] rfl rfl (any_of HT_.out (by kernel_rfl)) (fun _ _ _ h => h) (Or.inl ⟨by rfl, ?_⟩) ?_ ?_
        rotate_left
        · intro w'
          go_simp
          with_reducible rfl
        rotate_left
        · simp only [Act.put, tS_, tZ_, tC_, i64_w, i32_w]
          rfl
        refine pure_ (i := 14) (N := some 82) (v := ?_) (a' := ?_) #[true, true, false, true, false, true, false, true, false, false, false, true, true, false, true, false, false, false, false, false, false, false, false, false] rfl rfl (any_of HT_.out (by kernel_rfl)) (fun _ _ _ h => h) (Or.inl ⟨by rfl, ?_⟩) ?_ ?_
        rotate_left
        · intro w'
          go_simp
          with_reducible rfl
        rotate_left
        · simp only [Act.put, tS_, tZ_, tC_, i64_w, i32_w]
          rfl
        refine pure_ (i := 16) (N := some 84) (v := ?_) (a' := ?_) #[true, true, false, true, false, true, false, true, false, false, false, true, true, false, true, false, true, false, false, false, false, false, false, false] rfl rfl (any_of HT_.out (by kernel_rfl)) (fun _ _ _ h => h) (Or.inl ⟨by rfl, ?_⟩) ?_ ?_
        rotate_left
        · intro w'
          go_simp
          with_reducible rfl
        rotate_left
        · simp only [Act.put, tS_, tZ_, tC_, i64_w, i32_w]
          rfl
        refine pure_ (i := 18) (N := some 86) (v := ?_) (a' := ?_) #[true, true, false, true, false, true, false, true, false, false, false, true, true, false, true, false, true, false, true, false, false, false, false, false] rfl rfl (any_of HT_.out (by kernel_rfl)) (fun _ _ _ h => h) (Or.inl ⟨by rfl, ?_⟩) ?_ ?_
        rotate_left
        · intro w'
          go_simp
          with_reducible rfl
        rotate_left
        · simp only [Act.put, tS_, tZ_, tC_, i64_w, i32_w]
          rfl
        refine take_ (i := 2) (N := some 70) (v := ?_) (a' := ?_) #[true, true, true, true, false, true, false, true, false, false, false, true, true, false, true, false, true, false, true, false, false, false, false, false] rfl rfl (take_ofW HT_.out HW_.out (by kernel_rfl)) (fun _ _ _ h => h) (Or.inl ⟨by rfl, ?_⟩) hHeld ?_ ?_
        rotate_left
        · rintro w' ⟨s0, s1, s2, s3, s4, s5, s6, s7⟩
          go_simp
          with_reducible rfl
        rotate_left
        · simp only [Act.put, tS_, tZ_, tC_, i64_w, i32_w]
          rfl
        refine take_ (i := 4) (N := some 72) (v := ?_) (a' := ?_) #[true, true, true, true, true, true, false, true, false, false, false, true, true, false, true, false, true, false, true, false, false, false, false, false] rfl rfl (take_ofW HT_.out HW_.out (by kernel_rfl)) (fun _ _ _ h => h) (Or.inl ⟨by rfl, ?_⟩) hHeld ?_ ?_
        rotate_left
        · rintro w' ⟨s0, s1, s2, s3, s4, s5, s6, s7⟩
          go_simp
          with_reducible rfl
        rotate_left
        · simp only [Act.put, tS_, tZ_, tC_, i64_w, i32_w]
          rfl
        refine take_ (i := 6) (N := some 74) (v := ?_) (a' := ?_) #[true, true, true, true, true, true, true, true, false, false, false, true, true, false, true, false, true, false, true, false, false, false, false, false] rfl rfl (take_ofW HT_.out HW_.out (by kernel_rfl)) (fun _ _ _ h => h) (Or.inl ⟨by rfl, ?_⟩) hHeld ?_ ?_
        rotate_left
        · rintro w' ⟨s0, s1, s2, s3, s4, s5, s6, s7⟩
          go_simp
          with_reducible rfl
        rotate_left
        · simp only [Act.put, tS_, tZ_, tC_, i64_w, i32_w]
          rfl
        refine take_ (i := 8) (N := some 76) (v := ?_) (a' := ?_) #[true, true, true, true, true, true, true, true, true, false, false, true, true, false, true, false, true, false, true, false, false, false, false, false] rfl rfl (take_ofW HT_.out HW_.out (by kernel_rfl)) (fun _ _ _ h => h) (Or.inl ⟨by rfl, ?_⟩) hHeld ?_ ?_
        rotate_left
        · rintro w' ⟨s0, s1, s2, s3, s4, s5, s6, s7⟩
          go_simp
          with_reducible rfl
        rotate_left
        · simp only [Act.put, tS_, tZ_, tC_, i64_w, i32_w]
          rfl
        refine pure_ (i := 9) (N := some 77) (v := ?_) (a' := ?_) #[true, true, true, true, true, true, true, true, true, true, false, true, true, false, true, false, true, false, true, false, false, false, false, false] rfl rfl (any_of HT_.out (by kernel_rfl)) (fun _ _ _ h => h) (Or.inl ⟨by rfl, ?_⟩) ?_ ?_
        rotate_left
        · intro w'
          go_simp
          with_reducible rfl
        rotate_left
        · simp only [Act.put, tS_, tZ_, tC_, i64_w, i32_w]
          rfl
        refine take_ (i := 13) (N := some 81) (v := ?_) (a' := ?_) #[true, true, true, true, true, true, true, true, true, true, false, true, true, true, true, false, true, false, true, false, false, false, false, false] rfl rfl (take_ofW HT_.out HW_.out (by kernel_rfl)) (fun _ _ _ h => h) (Or.inl ⟨by rfl, ?_⟩) hHeld ?_ ?_
        rotate_left
        · rintro w' ⟨s0, s1, s2, s3, s4, s5, s6, s7⟩
          go_simp
          with_reducible rfl
        rotate_left
        · simp only [Act.put, tS_, tZ_, tC_, i64_w, i32_w]
          rfl
        refine take_ (i := 15) (N := some 83) (v := ?_) (a' := ?_) #[true, true, true, true, true, true, true, true, true, true, false, true, true, true, true, true, true, false, true, false, false, false, false, false] rfl rfl (take_ofW HT_.out HW_.out (by kernel_rfl)) (fun _ _ _ h => h) (Or.inl ⟨by rfl, ?_⟩) hHeld ?_ ?_
        rotate_left
        · rintro w' ⟨s0, s1, s2, s3, s4, s5, s6, s7⟩
          go_simp
          with_reducible rfl
        rotate_left
        · simp only [Act.put, tS_, tZ_, tC_, i64_w, i32_w]
          rfl
        refine take_ (i := 17) (N := some 85) (v := ?_) (a' := ?_) #[true, true, true, true, true, true, true, true, true, true, false, true, true, true, true, true, true, true, true, false, false, false, false, false] rfl rfl (take_ofW HT_.out HW_.out (by kernel_rfl)) (fun _ _ _ h => h) (Or.inl ⟨by rfl, ?_⟩) hHeld ?_ ?_
        rotate_left
        · rintro w' ⟨s0, s1, s2, s3, s4, s5, s6, s7⟩
          go_simp
          with_reducible rfl
        rotate_left
        · simp only [Act.put, tS_, tZ_, tC_, i64_w, i32_w]
          rfl
        refine take_ (i := 19) (N := some 87) (v := ?_) (a' := ?_) #[true, true, true, true, true, true, true, true, true, true, false, true, true, true, true, true, true, true, true, true, false, false, false, false] rfl rfl (take_ofW HT_.out HW_.out (by kernel_rfl)) (fun _ _ _ h => h) (Or.inl ⟨by rfl, ?_⟩) hHeld ?_ ?_
        rotate_left
        · rintro w' ⟨s0, s1, s2, s3, s4, s5, s6, s7⟩
          go_simp
          with_reducible rfl
        rotate_left
        · simp only [Act.put, tS_, tZ_, tC_, i64_w, i32_w]
          rfl
        refine pure_ (i := 20) (N := some 88) (v := ?_) (a' := ?_) #[true, true, true, true, true, true, true, true, true, true, false, true, true, true, true, true, true, true, true, true, true, false, false, false] rfl rfl (any_of HT_.out (by kernel_rfl)) (fun _ _ _ h => h) (Or.inl ⟨by rfl, ?_⟩) ?_ ?_
        rotate_left
        · intro w'
          go_simp
          with_reducible rfl
        rotate_left
        · simp only [Act.put, tS_, tZ_, tC_, i64_w, i32_w]
          rfl
        refine one_ (i := 10) (N := some 78) #[true, true, true, true, true, true, true, true, true, true, true, true, true, true, true, true, true, true, true, true, true, false, false, false] rfl rfl (one_of HT_.out (by kernel_rfl)) (by decide) (fun K hK => ?_)
        refine goesC_ #[] Try.func47 (by kernel_rfl) rfl #[.int .i64 ji42] #[.int .i64 ji42] (by rfl) rfl rfl rfl (by (try simp only [List.map_toArray, List.map_cons, List.map_nil]); first | done | (simp only [hji42]; rfl) | rfl | (simp only [List.length_drop, List.length_take]; rfl)) (by rfl) ?_
        with_reducible refine (affine_Box_2.calls ji42 t272 _ A43.out).mono ?_
        rintro e w76 ⟨rfl, hb⟩
        refine ⟨_, rfl, ?_⟩
        have n0_ := Aside0.mk (blk_below (g := gb254) (o := .cells #[.int .i64 a0_0, .int .i64 a0_1, .int .i64 a0_2, .int .i64 a0_3, .int .i64 a0_4, .int .i64 a0_5] 23 (0, 0)) (by (with_reducible repeat (first | refine bN_ ?_ _ | refine bD_ ?_ | refine bA_ ?_ _)); exact BK254.out) hb)
        have n1_ := Aside0.mk (blk_below (g := gb255) (o := .cells #[.int .i64 a1_0, .int .i64 a1_1, .int .i64 a1_2, .int .i64 a1_3] 44 (0, 0)) (by (with_reducible repeat (first | refine bN_ ?_ _ | refine bD_ ?_ | refine bA_ ?_ _)); exact BK255.out) hb)
        have n2_ := Aside0.mk (blk_below (g := gb256) (o := .cells #[.int .i64 x257000_26, .int .i64 x257001_26, .int .i64 x257002_26, .int .i64 x257003_26] 44 (0, 0)) (by (with_reducible repeat (first | refine bN_ ?_ _ | refine bD_ ?_ | refine bA_ ?_ _)); exact BK256.out) hb)
        have n3_ := Aside0.mk (blk_below (g := gb268) (o := .cells #[.int .i64 t260, .int .i64 t261] 25 (0, 0)) (by (with_reducible repeat (first | refine bN_ ?_ _ | refine bD_ ?_ | refine bA_ ?_ _)); exact BK268.out) hb)
        have n4_ := Aside0.mk (blk_below (g := gb269) (o := .cells #[.int .i64 t262, .int .i64 t263] 25 (0, 0)) (by (with_reducible repeat (first | refine bN_ ?_ _ | refine bD_ ?_ | refine bA_ ?_ _)); exact BK269.out) hb)
        have n5_ := Aside0.mk (blk_below (g := gb270) (o := .cells #[.int .i64 t264, .int .i64 t265] 25 (0, 0)) (by (with_reducible repeat (first | refine bN_ ?_ _ | refine bD_ ?_ | refine bA_ ?_ _)); exact BK270.out) hb)
        have n6_ := Aside0.mk (blk_below (g := gb271) (o := .cells #[.int .i64 t266, .int .i64 t267] 25 (0, 0)) (by (with_reducible repeat (first | refine bN_ ?_ _ | refine bD_ ?_ | refine bA_ ?_ _)); exact BK271.out) hb)
        have n7_ := Aside0.mk (below_step (by repeat (first | (with_reducible first | exact HB.out | apply lA_ | apply lN_ | apply lD_ | refine lS_ ?_ GE254.out | refine lS_ ?_ GE255.out | refine lS_ ?_ GE256.out | refine lS_ ?_ GE268.out | refine lS_ ?_ GE269.out | refine lS_ ?_ GE270.out | refine lS_ ?_ GE271.out) | exact HB.out)) hb)
        clear BK254 BK255 BK256 BK268 BK269 BK270 BK271 HB
        have BK254 := n0_; have BK255 := n1_; have BK256 := n2_; have BK268 := n3_; have BK269 := n4_; have BK270 := n5_; have BK271 := n6_; have HB := n7_
        clear n0_ n1_ n2_ n3_ n4_ n5_ n6_ n7_
        (try clear hb)
        (try clear hb2)
        (try clear hk)
        (try clear hi)
        refine hK.out _ _ ⟨(blk_cell BK268.out 0).trans rfl, (blk_cell BK268.out 1).trans rfl, (blk_cell BK269.out 0).trans rfl, (blk_cell BK269.out 1).trans rfl, (blk_cell BK270.out 0).trans rfl, (blk_cell BK270.out 1).trans rfl, (blk_cell BK271.out 0).trans rfl, (blk_cell BK271.out 1).trans rfl⟩ (fun hHeld => ?_)
        clear hK K
        refine norm_ (a' := ?_) ?_ ?_
        rotate_left
        · show Act.put _ (some 78) _ = _
          simp only [Act.put, tS_, tZ_, tC_, i64_w, i32_w]
          rfl
        refine one_ (i := 21) (N := some 89) #[true, true, true, true, true, true, true, true, true, true, true, true, true, true, true, true, true, true, true, true, true, true, false, false] rfl rfl (one_of HT_.out (by kernel_rfl)) (by decide) (fun K hK => ?_)
        refine goesC_ #[] Try.func49 (by kernel_rfl) rfl #[.int .i64 ji46] #[.int .i64 ji46] (by rfl) rfl rfl rfl (by (try simp only [List.map_toArray, List.map_cons, List.map_nil]); first | done | (simp only [hji46]; rfl) | rfl | (simp only [List.length_drop, List.length_take]; rfl)) (by rfl) ?_
        with_reducible refine (affine_Box_3.calls ji46 t273 _ A47.out).mono ?_
        rintro e w77 ⟨rfl, hb⟩
        refine ⟨_, rfl, ?_⟩
        have n0_ := Aside0.mk (blk_below (g := gb254) (o := .cells #[.int .i64 a0_0, .int .i64 a0_1, .int .i64 a0_2, .int .i64 a0_3, .int .i64 a0_4, .int .i64 a0_5] 23 (0, 0)) (by (with_reducible repeat (first | refine bN_ ?_ _ | refine bD_ ?_ | refine bA_ ?_ _)); exact BK254.out) hb)
        have n1_ := Aside0.mk (blk_below (g := gb255) (o := .cells #[.int .i64 a1_0, .int .i64 a1_1, .int .i64 a1_2, .int .i64 a1_3] 44 (0, 0)) (by (with_reducible repeat (first | refine bN_ ?_ _ | refine bD_ ?_ | refine bA_ ?_ _)); exact BK255.out) hb)
        have n2_ := Aside0.mk (blk_below (g := gb256) (o := .cells #[.int .i64 x257000_26, .int .i64 x257001_26, .int .i64 x257002_26, .int .i64 x257003_26] 44 (0, 0)) (by (with_reducible repeat (first | refine bN_ ?_ _ | refine bD_ ?_ | refine bA_ ?_ _)); exact BK256.out) hb)
        have n3_ := Aside0.mk (blk_below (g := gb268) (o := .cells #[.int .i64 t260, .int .i64 t261] 25 (0, 0)) (by (with_reducible repeat (first | refine bN_ ?_ _ | refine bD_ ?_ | refine bA_ ?_ _)); exact BK268.out) hb)
        have n4_ := Aside0.mk (blk_below (g := gb269) (o := .cells #[.int .i64 t262, .int .i64 t263] 25 (0, 0)) (by (with_reducible repeat (first | refine bN_ ?_ _ | refine bD_ ?_ | refine bA_ ?_ _)); exact BK269.out) hb)
        have n5_ := Aside0.mk (blk_below (g := gb270) (o := .cells #[.int .i64 t264, .int .i64 t265] 25 (0, 0)) (by (with_reducible repeat (first | refine bN_ ?_ _ | refine bD_ ?_ | refine bA_ ?_ _)); exact BK270.out) hb)
        have n6_ := Aside0.mk (blk_below (g := gb271) (o := .cells #[.int .i64 t266, .int .i64 t267] 25 (0, 0)) (by (with_reducible repeat (first | refine bN_ ?_ _ | refine bD_ ?_ | refine bA_ ?_ _)); exact BK271.out) hb)
        have n7_ := Aside0.mk (below_step (by repeat (first | (with_reducible first | exact HB.out | apply lA_ | apply lN_ | apply lD_ | refine lS_ ?_ GE254.out | refine lS_ ?_ GE255.out | refine lS_ ?_ GE256.out | refine lS_ ?_ GE268.out | refine lS_ ?_ GE269.out | refine lS_ ?_ GE270.out | refine lS_ ?_ GE271.out) | exact HB.out)) hb)
        clear BK254 BK255 BK256 BK268 BK269 BK270 BK271 HB
        have BK254 := n0_; have BK255 := n1_; have BK256 := n2_; have BK268 := n3_; have BK269 := n4_; have BK270 := n5_; have BK271 := n6_; have HB := n7_
        clear n0_ n1_ n2_ n3_ n4_ n5_ n6_ n7_
        (try clear hb)
        (try clear hb2)
        (try clear hk)
        (try clear hi)
        refine hK.out _ _ ⟨(blk_cell BK268.out 0).trans rfl, (blk_cell BK268.out 1).trans rfl, (blk_cell BK269.out 0).trans rfl, (blk_cell BK269.out 1).trans rfl, (blk_cell BK270.out 0).trans rfl, (blk_cell BK270.out 1).trans rfl, (blk_cell BK271.out 0).trans rfl, (blk_cell BK271.out 1).trans rfl⟩ (fun hHeld => ?_)
        clear hK K
        refine norm_ (a' := ?_) ?_ ?_
        rotate_left
        · show Act.put _ (some 89) _ = _
          simp only [Act.put, tS_, tZ_, tC_, i64_w, i32_w]
          rfl
        refine pure_ (i := 22) (N := some 14) (v := ?_) (a' := ?_) #[true, true, true, true, true, true, true, true, true, true, true, true, true, true, true, true, true, true, true, true, true, true, true, false] rfl rfl (any_of HT_.out (by kernel_rfl)) (fun _ _ _ h => h) (Or.inl ⟨by rfl, ?_⟩) ?_ ?_
        rotate_left
        · intro w'
          go_simp
          with_reducible rfl
        rotate_left
        · simp only [Act.put, tS_, tZ_, tC_, i64_w, i32_w]
          rfl
        refine pure_ (i := 23) (N := some 15) (v := ?_) (a' := ?_) #[true, true, true, true, true, true, true, true, true, true, true, true, true, true, true, true, true, true, true, true, true, true, true, true] rfl rfl (any_of HT_.out (by kernel_rfl)) (fun _ _ _ h => h) (Or.inl ⟨by rfl, ?_⟩) ?_ ?_
        rotate_left
        · intro w'
          go_simp
          with_reducible rfl
        rotate_left
        · simp only [Act.put, tS_, tZ_, tC_, i64_w, i32_w]
          rfl
        refine done_ (done_of HT_.out (by kernel_rfl)) ?_
        try go_wp2
        have n0_ := Aside0.mk (blk_drew BK254.out)
        have n1_ := Aside0.mk (blk_drew BK255.out)
        have n2_ := Aside0.mk (blk_drew BK256.out)
        have n3_ := Aside0.mk (blk_drew BK268.out)
        have n4_ := Aside0.mk (blk_drew BK269.out)
        have n5_ := Aside0.mk (blk_drew BK270.out)
        have n6_ := Aside0.mk (blk_drew BK271.out)
        have n7_ := Aside0.mk (lD_ HB.out)
        clear BK254 BK255 BK256 BK268 BK269 BK270 BK271 HB
        have BK254 := n0_; have BK255 := n1_; have BK256 := n2_; have BK268 := n3_; have BK269 := n4_; have BK270 := n5_; have BK271 := n6_; have HB := n7_
        clear n0_ n1_ n2_ n3_ n4_ n5_ n6_ n7_
        refine start_ (n := 24) (S := fun w' => w'.cell? ⟨gb268, 0, none⟩ = some (.int .i64 t260) ∧ w'.cell? ⟨gb268, 1, none⟩ = some (.int .i64 t261) ∧ w'.cell? ⟨gb269, 0, none⟩ = some (.int .i64 t262) ∧ w'.cell? ⟨gb269, 1, none⟩ = some (.int .i64 t263) ∧ w'.cell? ⟨gb270, 0, none⟩ = some (.int .i64 t264) ∧ w'.cell? ⟨gb270, 1, none⟩ = some (.int .i64 t265) ∧ w'.cell? ⟨gb271, 0, none⟩ = some (.int .i64 t266) ∧ w'.cell? ⟨gb271, 1, none⟩ = some (.int .i64 t267)) (ds := []) #[false, false, false, false, false, false, false, false, false, false, false, false, false, false, false, false, false, false, false, false, false, false, false, false] (by kernel_rfl) rfl rfl ⟨(blk_cell BK268.out 0).trans rfl, (blk_cell BK268.out 1).trans rfl, (blk_cell BK269.out 0).trans rfl, (blk_cell BK269.out 1).trans rfl, (blk_cell BK270.out 0).trans rfl, (blk_cell BK270.out 1).trans rfl, (blk_cell BK271.out 0).trans rfl, (blk_cell BK271.out 1).trans rfl⟩ (fun hHeld => ?_); refine with_tabW affine_Box.tab13 affine_Box.bits13 (fun HT_ HW_ => ?_)
        generalize w77.drew = w78 at BK254 BK255 BK256 BK268 BK269 BK270 BK271 HB hHeld ⊢
        refine pure_ (i := 0) (N := some 90) (v := ?_) (a' := ?_) #[true, false, false, false, false, false, false, false, false, false, false, false, false, false, false, false, false, false, false, false, false, false, false, false] rfl rfl (any_of HT_.out (by kernel_rfl)) (fun _ _ _ h => h) (Or.inl ⟨by rfl, ?_⟩) ?_ ?_
        rotate_left
        · intro w'
          go_simp
          with_reducible rfl
        rotate_left
        · simp only [Act.put, tS_, tZ_, tC_, i64_w, i32_w]
          rfl
        refine pure_ (i := 1) (N := some 91) (v := ?_) (a' := ?_) #[true, true, false, false, false, false, false, false, false, false, false, false, false, false, false, false, false, false, false, false, false, false, false, false] rfl rfl (any_of HT_.out (by kernel_rfl)) (fun _ _ _ h => h) (Or.inl ⟨by rfl, ?_⟩) ?_ ?_
        rotate_left
        · intro w'
          go_simp
          with_reducible rfl
        rotate_left
        · simp only [Act.put, tS_, tZ_, tC_, i64_w, i32_w]
          rfl
        refine pure_ (i := 3) (N := some 93) (v := ?_) (a' := ?_) #[true, true, false, true, false, false, false, false, false, false, false, false, false, false, false, false, false, false, false, false, false, false, false, false] rfl rfl (any_of HT_.out (by kernel_rfl)) (fun _ _ _ h => h) (Or.inl ⟨by rfl, ?_⟩) ?_ ?_
        rotate_left
        · intro w'
          go_simp
          with_reducible rfl
        rotate_left
        · simp only [Act.put, tS_, tZ_, tC_, i64_w, i32_w]
          rfl
        refine pure_ (i := 5) (N := some 95) (v := ?_) (a' := ?_) #[true, true, false, true, false, true, false, false, false, false, false, false, false, false, false, false, false, false, false, false, false, false, false, false] rfl rfl (any_of HT_.out (by kernel_rfl)) (fun _ _ _ h => h) (Or.inl ⟨by rfl, ?_⟩) ?_ ?_
        rotate_left
        · intro w'
          go_simp
          with_reducible rfl
        rotate_left
        · simp only [Act.put, tS_, tZ_, tC_, i64_w, i32_w]
          rfl
        refine pure_ (i := 7) (N := some 97) (v := ?_) (a' := ?_) #[true, true, false, true, false, true, false, true, false, false, false, false, false, false, false, false, false, false, false, false, false, false, false, false] rfl rfl (any_of HT_.out (by kernel_rfl)) (fun _ _ _ h => h) (Or.inl ⟨by rfl, ?_⟩) ?_ ?_
        rotate_left
        · intro w'
          go_simp
          with_reducible rfl
        rotate_left
        · simp only [Act.put, tS_, tZ_, tC_, i64_w, i32_w]
          rfl
        refine pure_ (i := 11) (N := some 101) (v := ?_) (a' := ?_) #[true, true, false, true, false, true, false, true, false, false, false, true, false, false, false, false, false, false, false, false, false, false, false, false] rfl rfl (any_of HT_.out (by kernel_rfl)) (fun _ _ _ h => h) (Or.inl ⟨by rfl, ?_⟩) ?_ ?_
        rotate_left
        · intro w'
          go_simp
          with_reducible rfl
        rotate_left
        · simp only [Act.put, tS_, tZ_, tC_, i64_w, i32_w]
          rfl
        refine pure_ (i := 12) (N := some 102) (v := ?_) (a' := ?_) #[true, true, false, true, false, true, false, true, false, false, false, true, true, false, false, false, false, false, false, false, false, false, false, false] rfl rfl (any_of HT_.out (by kernel_rfl)) (fun _ _ _ h => h) (Or.inl ⟨by rfl, ?_⟩) ?_ ?_
        rotate_left
        · intro w'
          go_simp
          with_reducible rfl
        rotate_left
        · simp only [Act.put, tS_, tZ_, tC_, i64_w, i32_w]
          rfl
        refine pure_ (i := 14) (N := some 104) (v := ?_) (a' := ?_) #[true, true, false, true, false, true, false, true, false, false, false, true, true, false, true, false, false, false, false, false, false, false, false, false] rfl rfl (any_of HT_.out (by kernel_rfl)) (fun _ _ _ h => h) (Or.inl ⟨by rfl, ?_⟩) ?_ ?_
        rotate_left
        · intro w'
          go_simp
          with_reducible rfl
        rotate_left
        · simp only [Act.put, tS_, tZ_, tC_, i64_w, i32_w]
          rfl
        refine pure_ (i := 16) (N := some 106) (v := ?_) (a' := ?_) #[true, true, false, true, false, true, false, true, false, false, false, true, true, false, true, false, true, false, false, false, false, false, false, false] rfl rfl (any_of HT_.out (by kernel_rfl)) (fun _ _ _ h => h) (Or.inl ⟨by rfl, ?_⟩) ?_ ?_
        rotate_left
        · intro w'
          go_simp
          with_reducible rfl
        rotate_left
        · simp only [Act.put, tS_, tZ_, tC_, i64_w, i32_w]
          rfl
        refine pure_ (i := 18) (N := some 108) (v := ?_) (a' := ?_) #[true, true, false, true, false, true, false, true, false, false, false, true, true, false, true, false, true, false, true, false, false, false, false, false] rfl rfl (any_of HT_.out (by kernel_rfl)) (fun _ _ _ h => h) (Or.inl ⟨by rfl, ?_⟩) ?_ ?_
        rotate_left
        · intro w'
          go_simp
          with_reducible rfl
        rotate_left
        · simp only [Act.put, tS_, tZ_, tC_, i64_w, i32_w]
          rfl
        refine take_ (i := 2) (N := some 92) (v := ?_) (a' := ?_) #[true, true, true, true, false, true, false, true, false, false, false, true, true, false, true, false, true, false, true, false, false, false, false, false] rfl rfl (take_ofW HT_.out HW_.out (by kernel_rfl)) (fun _ _ _ h => h) (Or.inl ⟨by rfl, ?_⟩) hHeld ?_ ?_
        rotate_left
        · rintro w' ⟨s0, s1, s2, s3, s4, s5, s6, s7⟩
          go_simp
          with_reducible rfl
        rotate_left
        · simp only [Act.put, tS_, tZ_, tC_, i64_w, i32_w]
          rfl
        refine take_ (i := 4) (N := some 94) (v := ?_) (a' := ?_) #[true, true, true, true, true, true, false, true, false, false, false, true, true, false, true, false, true, false, true, false, false, false, false, false] rfl rfl (take_ofW HT_.out HW_.out (by kernel_rfl)) (fun _ _ _ h => h) (Or.inl ⟨by rfl, ?_⟩) hHeld ?_ ?_
        rotate_left
        · rintro w' ⟨s0, s1, s2, s3, s4, s5, s6, s7⟩
          go_simp
          with_reducible rfl
        rotate_left
        · simp only [Act.put, tS_, tZ_, tC_, i64_w, i32_w]
          rfl
        refine take_ (i := 6) (N := some 96) (v := ?_) (a' := ?_) #[true, true, true, true, true, true, true, true, false, false, false, true, true, false, true, false, true, false, true, false, false, false, false, false] rfl rfl (take_ofW HT_.out HW_.out (by kernel_rfl)) (fun _ _ _ h => h) (Or.inl ⟨by rfl, ?_⟩) hHeld ?_ ?_
        rotate_left
        · rintro w' ⟨s0, s1, s2, s3, s4, s5, s6, s7⟩
          go_simp
          with_reducible rfl
        rotate_left
        · simp only [Act.put, tS_, tZ_, tC_, i64_w, i32_w]
          rfl
        refine take_ (i := 8) (N := some 98) (v := ?_) (a' := ?_) #[true, true, true, true, true, true, true, true, true, false, false, true, true, false, true, false, true, false, true, false, false, false, false, false] rfl rfl (take_ofW HT_.out HW_.out (by kernel_rfl)) (fun _ _ _ h => h) (Or.inl ⟨by rfl, ?_⟩) hHeld ?_ ?_
        rotate_left
        · rintro w' ⟨s0, s1, s2, s3, s4, s5, s6, s7⟩
          go_simp
          with_reducible rfl
        rotate_left
        · simp only [Act.put, tS_, tZ_, tC_, i64_w, i32_w]
          rfl
        refine pure_ (i := 9) (N := some 99) (v := ?_) (a' := ?_) #[true, true, true, true, true, true, true, true, true, true, false, true, true, false, true, false, true, false, true, false, false, false, false, false] rfl rfl (any_of HT_.out (by kernel_rfl)) (fun _ _ _ h => h) (Or.inl ⟨by rfl, ?_⟩) ?_ ?_
        rotate_left
        · intro w'
          go_simp
          with_reducible rfl
        rotate_left
        · simp only [Act.put, tS_, tZ_, tC_, i64_w, i32_w]
          rfl
        refine take_ (i := 13) (N := some 103) (v := ?_) (a' := ?_) #[true, true, true, true, true, true, true, true, true, true, false, true, true, true, true, false, true, false, true, false, false, false, false, false] rfl rfl (take_ofW HT_.out HW_.out (by kernel_rfl)) (fun _ _ _ h => h) (Or.inl ⟨by rfl, ?_⟩) hHeld ?_ ?_
        rotate_left
        · rintro w' ⟨s0, s1, s2, s3, s4, s5, s6, s7⟩
          go_simp
          with_reducible rfl
        rotate_left
        · simp only [Act.put, tS_, tZ_, tC_, i64_w, i32_w]
          rfl
        refine take_ (i := 15) (N := some 105) (v := ?_) (a' := ?_) #[true, true, true, true, true, true, true, true, true, true, false, true, true, true, true, true, true, false, true, false, false, false, false, false] rfl rfl (take_ofW HT_.out HW_.out (by kernel_rfl)) (fun _ _ _ h => h) (Or.inl ⟨by rfl, ?_⟩) hHeld ?_ ?_
        rotate_left
        · rintro w' ⟨s0, s1, s2, s3, s4, s5, s6, s7⟩
          go_simp
          with_reducible rfl
        rotate_left
        · simp only [Act.put, tS_, tZ_, tC_, i64_w, i32_w]
          rfl
        refine take_ (i := 17) (N := some 107) (v := ?_) (a' := ?_) #[true, true, true, true, true, true, true, true, true, true, false, true, true, true, true, true, true, true, true, false, false, false, false, false] rfl rfl (take_ofW HT_.out HW_.out (by kernel_rfl)) (fun _ _ _ h => h) (Or.inl ⟨by rfl, ?_⟩) hHeld ?_ ?_
        rotate_left
        · rintro w' ⟨s0, s1, s2, s3, s4, s5, s6, s7⟩
          go_simp
          with_reducible rfl
        rotate_left
        · simp only [Act.put, tS_, tZ_, tC_, i64_w, i32_w]
          rfl
        refine take_ (i := 19) (N := some 109) (v := ?_) (a' := ?_) #[true, true, true, true, true, true, true, true, true, true, false, true, true, true, true, true, true, true, true, true, false, false, false, false] rfl rfl (take_ofW HT_.out HW_.out (by kernel_rfl)) (fun _ _ _ h => h) (Or.inl ⟨by rfl, ?_⟩) hHeld ?_ ?_
        rotate_left
        · rintro w' ⟨s0, s1, s2, s3, s4, s5, s6, s7⟩
          go_simp
          with_reducible rfl
        rotate_left
        · simp only [Act.put, tS_, tZ_, tC_, i64_w, i32_w]
          rfl
        refine pure_ (i := 20) (N := some 110) (v := ?_) (a' := ?_) #[true, true, true, true, true, true, true, true, true, true, false, true, true, true, true, true, true, true, true, true, true, false, false, false] rfl rfl (any_of HT_.out (by kernel_rfl)) (fun _ _ _ h => h) (Or.inl ⟨by rfl, ?_⟩) ?_ ?_
        rotate_left
        · intro w'
          go_simp
          with_reducible rfl
        rotate_left
        · simp only [Act.put, tS_, tZ_, tC_, i64_w, i32_w]
          rfl
        refine one_ (i := 10) (N := some 100) #[true, true, true, true, true, true, true, true, true, true, true, true, true, true, true, true, true, true, true, true, true, false, false, false] rfl rfl (one_of HT_.out (by kernel_rfl)) (by decide) (fun K hK => ?_)
        refine goesC_ #[] Try.func47 (by kernel_rfl) rfl #[.int .i64 ji50] #[.int .i64 ji50] (by rfl) rfl rfl rfl (by (try simp only [List.map_toArray, List.map_cons, List.map_nil]); first | done | (simp only [hji50]; rfl) | rfl | (simp only [List.length_drop, List.length_take]; rfl)) (by rfl) ?_
        with_reducible refine (affine_Box_2.calls ji50 t274 _ A51.out).mono ?_
        rintro e w79 ⟨rfl, hb⟩
        refine ⟨_, rfl, ?_⟩
        have n0_ := Aside0.mk (blk_below (g := gb254) (o := .cells #[.int .i64 a0_0, .int .i64 a0_1, .int .i64 a0_2, .int .i64 a0_3, .int .i64 a0_4, .int .i64 a0_5] 23 (0, 0)) (by (with_reducible repeat (first | refine bN_ ?_ _ | refine bD_ ?_ | refine bA_ ?_ _)); exact BK254.out) hb)
        have n1_ := Aside0.mk (blk_below (g := gb255) (o := .cells #[.int .i64 a1_0, .int .i64 a1_1, .int .i64 a1_2, .int .i64 a1_3] 44 (0, 0)) (by (with_reducible repeat (first | refine bN_ ?_ _ | refine bD_ ?_ | refine bA_ ?_ _)); exact BK255.out) hb)
        have n2_ := Aside0.mk (blk_below (g := gb256) (o := .cells #[.int .i64 x257000_26, .int .i64 x257001_26, .int .i64 x257002_26, .int .i64 x257003_26] 44 (0, 0)) (by (with_reducible repeat (first | refine bN_ ?_ _ | refine bD_ ?_ | refine bA_ ?_ _)); exact BK256.out) hb)
        have n3_ := Aside0.mk (blk_below (g := gb268) (o := .cells #[.int .i64 t260, .int .i64 t261] 25 (0, 0)) (by (with_reducible repeat (first | refine bN_ ?_ _ | refine bD_ ?_ | refine bA_ ?_ _)); exact BK268.out) hb)
        have n4_ := Aside0.mk (blk_below (g := gb269) (o := .cells #[.int .i64 t262, .int .i64 t263] 25 (0, 0)) (by (with_reducible repeat (first | refine bN_ ?_ _ | refine bD_ ?_ | refine bA_ ?_ _)); exact BK269.out) hb)
        have n5_ := Aside0.mk (blk_below (g := gb270) (o := .cells #[.int .i64 t264, .int .i64 t265] 25 (0, 0)) (by (with_reducible repeat (first | refine bN_ ?_ _ | refine bD_ ?_ | refine bA_ ?_ _)); exact BK270.out) hb)
        have n6_ := Aside0.mk (blk_below (g := gb271) (o := .cells #[.int .i64 t266, .int .i64 t267] 25 (0, 0)) (by (with_reducible repeat (first | refine bN_ ?_ _ | refine bD_ ?_ | refine bA_ ?_ _)); exact BK271.out) hb)
        have n7_ := Aside0.mk (below_step (by repeat (first | (with_reducible first | exact HB.out | apply lA_ | apply lN_ | apply lD_ | refine lS_ ?_ GE254.out | refine lS_ ?_ GE255.out | refine lS_ ?_ GE256.out | refine lS_ ?_ GE268.out | refine lS_ ?_ GE269.out | refine lS_ ?_ GE270.out | refine lS_ ?_ GE271.out) | exact HB.out)) hb)
        clear BK254 BK255 BK256 BK268 BK269 BK270 BK271 HB
        have BK254 := n0_; have BK255 := n1_; have BK256 := n2_; have BK268 := n3_; have BK269 := n4_; have BK270 := n5_; have BK271 := n6_; have HB := n7_
        clear n0_ n1_ n2_ n3_ n4_ n5_ n6_ n7_
        (try clear hb)
        (try clear hb2)
        (try clear hk)
        (try clear hi)
        refine hK.out _ _ ⟨(blk_cell BK268.out 0).trans rfl, (blk_cell BK268.out 1).trans rfl, (blk_cell BK269.out 0).trans rfl, (blk_cell BK269.out 1).trans rfl, (blk_cell BK270.out 0).trans rfl, (blk_cell BK270.out 1).trans rfl, (blk_cell BK271.out 0).trans rfl, (blk_cell BK271.out 1).trans rfl⟩ (fun hHeld => ?_)
        clear hK K
        refine norm_ (a' := ?_) ?_ ?_
        rotate_left
        · show Act.put _ (some 100) _ = _
          simp only [Act.put, tS_, tZ_, tC_, i64_w, i32_w]
          rfl
        refine one_ (i := 21) (N := some 111) #[true, true, true, true, true, true, true, true, true, true, true, true, true, true, true, true, true, true, true, true, true, true, false, false] rfl rfl (one_of HT_.out (by kernel_rfl)) (by decide) (fun K hK => ?_)
        refine goesC_ #[] Try.func49 (by kernel_rfl) rfl #[.int .i64 ji54] #[.int .i64 ji54] (by rfl) rfl rfl rfl (by (try simp only [List.map_toArray, List.map_cons, List.map_nil]); first | done | (simp only [hji54]; rfl) | rfl | (simp only [List.length_drop, List.length_take]; rfl)) (by rfl) ?_
        with_reducible refine (affine_Box_3.calls ji54 t275 _ A55.out).mono ?_
        rintro e w80 ⟨rfl, hb⟩
        refine ⟨_, rfl, ?_⟩
        have n0_ := Aside0.mk (blk_below (g := gb254) (o := .cells #[.int .i64 a0_0, .int .i64 a0_1, .int .i64 a0_2, .int .i64 a0_3, .int .i64 a0_4, .int .i64 a0_5] 23 (0, 0)) (by (with_reducible repeat (first | refine bN_ ?_ _ | refine bD_ ?_ | refine bA_ ?_ _)); exact BK254.out) hb)
        have n1_ := Aside0.mk (blk_below (g := gb255) (o := .cells #[.int .i64 a1_0, .int .i64 a1_1, .int .i64 a1_2, .int .i64 a1_3] 44 (0, 0)) (by (with_reducible repeat (first | refine bN_ ?_ _ | refine bD_ ?_ | refine bA_ ?_ _)); exact BK255.out) hb)
        have n2_ := Aside0.mk (blk_below (g := gb256) (o := .cells #[.int .i64 x257000_26, .int .i64 x257001_26, .int .i64 x257002_26, .int .i64 x257003_26] 44 (0, 0)) (by (with_reducible repeat (first | refine bN_ ?_ _ | refine bD_ ?_ | refine bA_ ?_ _)); exact BK256.out) hb)
        have n3_ := Aside0.mk (blk_below (g := gb268) (o := .cells #[.int .i64 t260, .int .i64 t261] 25 (0, 0)) (by (with_reducible repeat (first | refine bN_ ?_ _ | refine bD_ ?_ | refine bA_ ?_ _)); exact BK268.out) hb)
        have n4_ := Aside0.mk (blk_below (g := gb269) (o := .cells #[.int .i64 t262, .int .i64 t263] 25 (0, 0)) (by (with_reducible repeat (first | refine bN_ ?_ _ | refine bD_ ?_ | refine bA_ ?_ _)); exact BK269.out) hb)
        have n5_ := Aside0.mk (blk_below (g := gb270) (o := .cells #[.int .i64 t264, .int .i64 t265] 25 (0, 0)) (by (with_reducible repeat (first | refine bN_ ?_ _ | refine bD_ ?_ | refine bA_ ?_ _)); exact BK270.out) hb)
        have n6_ := Aside0.mk (blk_below (g := gb271) (o := .cells #[.int .i64 t266, .int .i64 t267] 25 (0, 0)) (by (with_reducible repeat (first | refine bN_ ?_ _ | refine bD_ ?_ | refine bA_ ?_ _)); exact BK271.out) hb)
        have n7_ := Aside0.mk (below_step (by repeat (first | (with_reducible first | exact HB.out | apply lA_ | apply lN_ | apply lD_ | refine lS_ ?_ GE254.out | refine lS_ ?_ GE255.out | refine lS_ ?_ GE256.out | refine lS_ ?_ GE268.out | refine lS_ ?_ GE269.out | refine lS_ ?_ GE270.out | refine lS_ ?_ GE271.out) | exact HB.out)) hb)
        clear BK254 BK255 BK256 BK268 BK269 BK270 BK271 HB
        have BK254 := n0_; have BK255 := n1_; have BK256 := n2_; have BK268 := n3_; have BK269 := n4_; have BK270 := n5_; have BK271 := n6_; have HB := n7_
        clear n0_ n1_ n2_ n3_ n4_ n5_ n6_ n7_
        (try clear hb)
        (try clear hb2)
        (try clear hk)
        (try clear hi)
        refine hK.out _ _ ⟨(blk_cell BK268.out 0).trans rfl, (blk_cell BK268.out 1).trans rfl, (blk_cell BK269.out 0).trans rfl, (blk_cell BK269.out 1).trans rfl, (blk_cell BK270.out 0).trans rfl, (blk_cell BK270.out 1).trans rfl, (blk_cell BK271.out 0).trans rfl, (blk_cell BK271.out 1).trans rfl⟩ (fun hHeld => ?_)
        clear hK K
        refine norm_ (a' := ?_) ?_ ?_
        rotate_left
        · show Act.put _ (some 111) _ = _
          simp only [Act.put, tS_, tZ_, tC_, i64_w, i32_w]
          rfl
        refine pure_ (i := 22) (N := some 16) (v := ?_) (a' := ?_) #[true, true, true, true, true, true, true, true, true, true, true, true, true, true, true, true, true, true, true, true, true, true, true, false] rfl rfl (any_of HT_.out (by kernel_rfl)) (fun _ _ _ h => h) (Or.inl ⟨by rfl, ?_⟩) ?_ ?_
        rotate_left
        · intro w'
          go_simp
          with_reducible rfl
        rotate_left
        · simp only [Act.put, tS_, tZ_, tC_, i64_w, i32_w]
          rfl
        refine pure_ (i := 23) (N := some 17) (v := ?_) (a' := ?_) #[true, true, true, true, true, true, true, true, true, true, true, true, true, true, true, true, true, true, true, true, true, true, true, true] rfl rfl (any_of HT_.out (by kernel_rfl)) (fun _ _ _ h => h) (Or.inl ⟨by rfl, ?_⟩) ?_ ?_
        rotate_left
        · intro w'
          go_simp
          with_reducible rfl
        rotate_left
        · simp only [Act.put, tS_, tZ_, tC_, i64_w, i32_w]
          rfl
        refine done_ (done_of HT_.out (by kernel_rfl)) ?_
        go_upto_region 14 with (fail)
        go_cut [119] (fun v119 wc => ∃ (kq : Nat) (x119_55 : Bool), v119 = .bool x119_55 ∧ Aside0 (affine_Box.j3 kq t272 t273 t274 t275 x119_55 = some (r1, r2, r3, r4, r5)) ∧ Aside0 (kq ≤ kj26) ∧ Aside0 (wc.heap[gb254]? = some (.cells #[.int .i64 a0_0, .int .i64 a0_1, .int .i64 a0_2, .int .i64 a0_3, .int .i64 a0_4, .int .i64 a0_5] 23 (0, 0))) ∧ Aside0 (wc.heap[gb255]? = some (.cells #[.int .i64 a1_0, .int .i64 a1_1, .int .i64 a1_2, .int .i64 a1_3] 44 (0, 0))) ∧ Aside0 (wc.heap[gb256]? = some (.cells #[.int .i64 x257000_26, .int .i64 x257001_26, .int .i64 x257002_26, .int .i64 x257003_26] 44 (0, 0))) ∧ Aside0 (wc.heap[gb268]? = some (.cells #[.int .i64 t260, .int .i64 t261] 25 (0, 0))) ∧ Aside0 (wc.heap[gb269]? = some (.cells #[.int .i64 t262, .int .i64 t263] 25 (0, 0))) ∧ Aside0 (wc.heap[gb270]? = some (.cells #[.int .i64 t264, .int .i64 t265] 25 (0, 0))) ∧ Aside0 (wc.heap[gb271]? = some (.cells #[.int .i64 t266, .int .i64 t267] 25 (0, 0))) ∧ Aside0 (Below w.heap.size w wc))
        case first =>
          have H := HC56.out
          clear HC56
          by_cases c81 : t272 ≥ t273
          · rw [if_pos c81] at H
            have c81b0 : decide (t273 ≤ t272) = true := decide_eq_true c81
            clear c81
            (first | rw [c81b0] | (simp only [i64_w, i32_w]; rw [c81b0]) | skip)
            have H' := Aside0.mk H
            clear H
            go_wp2
            go_meet
            case rel => exact ⟨_, (true), (by first | rfl | (simp; done) | (simp [*]; done)), H', ⟨by have := HJ3.out; have := HJ16.out; have := HJ26.out; first | omega | exact Nat.le_refl _⟩, ⟨by (with_reducible repeat (first | refine bN_ ?_ _ | refine bD_ ?_ | refine bA_ ?_ _)); exact BK254.out⟩, ⟨by (with_reducible repeat (first | refine bN_ ?_ _ | refine bD_ ?_ | refine bA_ ?_ _)); exact BK255.out⟩, ⟨by (with_reducible repeat (first | refine bN_ ?_ _ | refine bD_ ?_ | refine bA_ ?_ _)); exact BK256.out⟩, ⟨by (with_reducible repeat (first | refine bN_ ?_ _ | refine bD_ ?_ | refine bA_ ?_ _)); exact BK268.out⟩, ⟨by (with_reducible repeat (first | refine bN_ ?_ _ | refine bD_ ?_ | refine bA_ ?_ _)); exact BK269.out⟩, ⟨by (with_reducible repeat (first | refine bN_ ?_ _ | refine bD_ ?_ | refine bA_ ?_ _)); exact BK270.out⟩, ⟨by (with_reducible repeat (first | refine bN_ ?_ _ | refine bD_ ?_ | refine bA_ ?_ _)); exact BK271.out⟩, ⟨by repeat (first | (with_reducible first | exact HB.out | apply lA_ | apply lN_ | apply lD_ | refine lS_ ?_ GE254.out | refine lS_ ?_ GE255.out | refine lS_ ?_ GE256.out | refine lS_ ?_ GE268.out | refine lS_ ?_ GE269.out | refine lS_ ?_ GE270.out | refine lS_ ?_ GE271.out) | exact HB.out)⟩⟩
          · rw [if_neg c81] at H
            have c81b0 : decide (t273 ≤ t272) = false := decide_eq_false c81
            clear c81
            (first | rw [c81b0] | (simp only [i64_w, i32_w]; rw [c81b0]) | skip)
            have H' := Aside0.mk H
            clear H
            go_wp2
            go_meet
            case rel => exact ⟨_, (decide (t274 ≥ t275)), (by first | rfl | (simp; done) | (simp [*]; done)), H', ⟨by have := HJ3.out; have := HJ16.out; have := HJ26.out; first | omega | exact Nat.le_refl _⟩, ⟨by (with_reducible repeat (first | refine bN_ ?_ _ | refine bD_ ?_ | refine bA_ ?_ _)); exact BK254.out⟩, ⟨by (with_reducible repeat (first | refine bN_ ?_ _ | refine bD_ ?_ | refine bA_ ?_ _)); exact BK255.out⟩, ⟨by (with_reducible repeat (first | refine bN_ ?_ _ | refine bD_ ?_ | refine bA_ ?_ _)); exact BK256.out⟩, ⟨by (with_reducible repeat (first | refine bN_ ?_ _ | refine bD_ ?_ | refine bA_ ?_ _)); exact BK268.out⟩, ⟨by (with_reducible repeat (first | refine bN_ ?_ _ | refine bD_ ?_ | refine bA_ ?_ _)); exact BK269.out⟩, ⟨by (with_reducible repeat (first | refine bN_ ?_ _ | refine bD_ ?_ | refine bA_ ?_ _)); exact BK270.out⟩, ⟨by (with_reducible repeat (first | refine bN_ ?_ _ | refine bD_ ?_ | refine bA_ ?_ _)); exact BK271.out⟩, ⟨by repeat (first | (with_reducible first | exact HB.out | apply lA_ | apply lN_ | apply lD_ | refine lS_ ?_ GE254.out | refine lS_ ?_ GE255.out | refine lS_ ?_ GE256.out | refine lS_ ?_ GE268.out | refine lS_ ?_ GE269.out | refine lS_ ?_ GE270.out | refine lS_ ?_ GE271.out) | exact HB.out)⟩⟩
        clear HC56
        try clear p2
        try clear c4
        try clear c8
        try clear c47
        try clear c49
        try clear c81
        try clear c81b0
        obtain ⟨kq, x119_55, rfl, HA, HJ55, BK254, BK255, BK256, BK268, BK269, BK270, BK271, HB⟩ := hcut
        cases kq with
        | zero => exact absurd HA.out (by simp [affine_Box.j3])
        | succ kj55 =>
          have H := HA.out
          clear HA
          simp only [affine_Box.j3] at H
          by_cases c82 : x119_55 = true
          · subst c82
            have H1 : (some (0, 0, 0, 0, 0)) = some (r1, r2, r3, r4, r5) := by rw [if_pos rfl] at H; exact H
            clear H
            have H := H1
            clear H1
            simp only [Option.some.injEq, Prod.mk.injEq] at H
            obtain ⟨rfl, rfl, rfl, rfl, rfl⟩ := H
            have hnb83 := NB256_254.out
            have hnc83 := NB254_256.out
            have hnb84 := NB256_255.out
            have hnc84 := NB255_256.out
            have hnb85 := NB256_268.out
            have hnc85 := NB268_256.out
            have hnb86 := NB256_269.out
            have hnc86 := NB269_256.out
            have hnb87 := NB256_270.out
            have hnc87 := NB270_256.out
            have hnb88 := NB256_271.out
            have hnc88 := NB271_256.out
            have hcz89_0 : wc.cell? ⟨gb256, 0, none⟩ = some (.int .i64 x257000_26) := (blk_cell BK256.out 0).trans rfl
            have hcz89_1 : wc.cell? ⟨gb256, 1, none⟩ = some (.int .i64 x257001_26) := (blk_cell BK256.out 1).trans rfl
            have hcz89_2 : wc.cell? ⟨gb256, 2, none⟩ = some (.int .i64 x257002_26) := (blk_cell BK256.out 2).trans rfl
            have hcz89_3 : wc.cell? ⟨gb256, 3, none⟩ = some (.int .i64 x257003_26) := (blk_cell BK256.out 3).trans rfl
            have hfz89_0 := blk_frozen BK256.out 0
            have hfz89_1 := blk_frozen BK256.out 1
            have hfz89_2 := blk_frozen BK256.out 2
            have hfz89_3 := blk_frozen BK256.out 3
            go_wp2
            refine bodyPost_ret (results_ct rfl _ _ gb256 44 #[.int .i64 0, .int .i64 0, .int .i64 0, .int .i64 0] (0, 0) _ rfl (by (with_reducible repeat (first | refine bN_ ?_ _ | refine bD_ ?_ | refine bA_ ?_ _)); refine blk_put (cs := #[.int .i64 0, .int .i64 0, .int .i64 0, .int .i64 x257003_26]) ?_ 3 _ rfl; (with_reducible repeat (first | refine bN_ ?_ _ | refine bD_ ?_ | refine bA_ ?_ _)); refine blk_put (cs := #[.int .i64 0, .int .i64 0, .int .i64 x257002_26, .int .i64 x257003_26]) ?_ 2 _ rfl; (with_reducible repeat (first | refine bN_ ?_ _ | refine bD_ ?_ | refine bA_ ?_ _)); refine blk_put (cs := #[.int .i64 0, .int .i64 x257001_26, .int .i64 x257002_26, .int .i64 x257003_26]) ?_ 1 _ rfl; (with_reducible repeat (first | refine bN_ ?_ _ | refine bD_ ?_ | refine bA_ ?_ _)); refine blk_put (cs := #[.int .i64 x257000_26, .int .i64 x257001_26, .int .i64 x257002_26, .int .i64 x257003_26]) ?_ 0 _ rfl; (with_reducible repeat (first | refine bN_ ?_ _ | refine bD_ ?_ | refine bA_ ?_ _)); exact BK256.out) Try.underlying44 rfl (by kernel_rfl)) rfl ?_
            exact ⟨by first | rfl | (simp [errW_none, errW_some] <;> rfl) | (simp only [← hji40, ← hji41, ← hji42, ← hji44, ← hji45, ← hji46, ← hji48, ← hji49, ← hji50, ← hji52, ← hji53, ← hji54]; first | rfl | (simp [errW_none, errW_some] <;> rfl)) | (simp [*, errW_none, errW_some] <;> rfl), by repeat (first | (with_reducible first | exact HB.out | apply lA_ | apply lN_ | apply lD_ | refine lS_ ?_ GE254.out | refine lS_ ?_ GE255.out | refine lS_ ?_ GE256.out | refine lS_ ?_ GE268.out | refine lS_ ?_ GE269.out | refine lS_ ?_ GE270.out | refine lS_ ?_ GE271.out) | exact HB.out)⟩
          · replace c82 := Bool.eq_false_iff.mpr c82
            subst c82
            have H1 : (some (t272, t274, wrap64 (t273 - t272), wrap64 (t275 - t274), 0)) = some (r1, r2, r3, r4, r5) := by rw [if_neg (show ¬ (false = true) by decide)] at H; exact H
            clear H
            have H := H1
            clear H1
            simp only [Option.some.injEq, Prod.mk.injEq] at H
            obtain ⟨rfl, rfl, rfl, rfl, rfl⟩ := H
            have hnb90 := NB256_254.out
            have hnc90 := NB254_256.out
            have hnb91 := NB256_255.out
            have hnc91 := NB255_256.out
            have hnb92 := NB256_268.out
            have hnc92 := NB268_256.out
            have hnb93 := NB256_269.out
            have hnc93 := NB269_256.out
            have hnb94 := NB256_270.out
            have hnc94 := NB270_256.out
            have hnb95 := NB256_271.out
            have hnc95 := NB271_256.out
            have hcz96_0 : wc.cell? ⟨gb256, 0, none⟩ = some (.int .i64 x257000_26) := (blk_cell BK256.out 0).trans rfl
            have hcz96_1 : wc.cell? ⟨gb256, 1, none⟩ = some (.int .i64 x257001_26) := (blk_cell BK256.out 1).trans rfl
            have hcz96_2 : wc.cell? ⟨gb256, 2, none⟩ = some (.int .i64 x257002_26) := (blk_cell BK256.out 2).trans rfl
            have hcz96_3 : wc.cell? ⟨gb256, 3, none⟩ = some (.int .i64 x257003_26) := (blk_cell BK256.out 3).trans rfl
            have hfz96_0 := blk_frozen BK256.out 0
            have hfz96_1 := blk_frozen BK256.out 1
            have hfz96_2 := blk_frozen BK256.out 2
            have hfz96_3 := blk_frozen BK256.out 3
            go_wp2
            refine bodyPost_ret (results_ct rfl _ _ gb256 44 #[.int .i64 t272, .int .i64 t274, .int .i64 (wrap64 (t273 - t272)), .int .i64 (wrap64 (t275 - t274))] (0, 0) _ rfl (by (with_reducible repeat (first | refine bN_ ?_ _ | refine bD_ ?_ | refine bA_ ?_ _)); refine blk_put (cs := #[.int .i64 t272, .int .i64 t274, .int .i64 (wrap64 (t273 - t272)), .int .i64 x257003_26]) ?_ 3 _ rfl; (with_reducible repeat (first | refine bN_ ?_ _ | refine bD_ ?_ | refine bA_ ?_ _)); refine blk_put (cs := #[.int .i64 t272, .int .i64 t274, .int .i64 x257002_26, .int .i64 x257003_26]) ?_ 2 _ rfl; (with_reducible repeat (first | refine bN_ ?_ _ | refine bD_ ?_ | refine bA_ ?_ _)); refine blk_put (cs := #[.int .i64 t272, .int .i64 x257001_26, .int .i64 x257002_26, .int .i64 x257003_26]) ?_ 1 _ rfl; (with_reducible repeat (first | refine bN_ ?_ _ | refine bD_ ?_ | refine bA_ ?_ _)); refine blk_put (cs := #[.int .i64 x257000_26, .int .i64 x257001_26, .int .i64 x257002_26, .int .i64 x257003_26]) ?_ 0 _ rfl; (with_reducible repeat (first | refine bN_ ?_ _ | refine bD_ ?_ | refine bA_ ?_ _)); exact BK256.out) Try.underlying44 rfl (by kernel_rfl)) rfl ?_
            exact ⟨by first | rfl | (simp [errW_none, errW_some] <;> rfl) | (simp only [← hji40, ← hji41, ← hji42, ← hji44, ← hji45, ← hji46, ← hji48, ← hji49, ← hji50, ← hji52, ← hji53, ← hji54]; first | rfl | (simp [errW_none, errW_some] <;> rfl)) | (simp [*, errW_none, errW_some] <;> rfl), by repeat (first | (with_reducible first | exact HB.out | apply lA_ | apply lN_ | apply lD_ | refine lS_ ?_ GE254.out | refine lS_ ?_ GE255.out | refine lS_ ?_ GE256.out | refine lS_ ?_ GE268.out | refine lS_ ?_ GE269.out | refine lS_ ?_ GE270.out | refine lS_ ?_ GE271.out) | exact HB.out)⟩

end Go.Proofs.Ytgciphmmfbgkeaa.Q
