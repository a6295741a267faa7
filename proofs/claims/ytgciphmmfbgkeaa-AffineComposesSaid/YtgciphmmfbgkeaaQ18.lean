/- Each Go function of the law as a Lean function, with the proof that its call comes to just that, for every input; written by hp.py, a program of this session over the kit own print of the translation. -/
import Derived.Test.YtgciphmmfbgkeaaGg
import Derived.Test.YtgciphmmfbgkeaaQ0
import Derived.Test.YtgciphmmfbgkeaaQ6
import Derived.Test.YtgciphmmfbgkeaaQ8
import Derived.Test.YtgciphmmfbgkeaaQ12
import Derived.Test.YtgciphmmfbgkeaaQ15
import Derived.Test.YtgciphmmfbgkeaaQ17
namespace Go.Proofs.Ytgciphmmfbgkeaa.Q
open Go.RowKit Go.Proofs.YtgciphmmfbgkeaaW.PrintWords Go.Proofs.YtgciphmmfbgkeaaW.PrintLast Go.Proofs.YtgciphmmfbgkeaaW.PrintMore
attribute [local go_sem] max2_int min2_int max_two min_two max_three min_three max_four min_four   -- for this text's walks alone
set_option linter.unusedVariables false
set_option linter.unusedSimpArgs false
open Go.Proofs.Ytgciphmmfbgkeaa.Clo Go.Proofs.Ytgciphmmfbgkeaa.Sin0

/-! ### imageeditorlaw12_AffineComposes: function 7 -/
def imageeditorlaw12_AffineComposes.j0 : Nat → Bool → Int → Int → Int → Int → Int → Int → Int → Int → Int → Int → Int → Int → Int → Int → Option (Bool)
  | 0, _, _, _, _, _, _, _, _, _, _, _, _, _, _, _ => none
  | k + 1, x25, x532000, x532001, x532002, x532003, x532004, x532005, x533000, x533001, x533002, x533003, x533004, x533005, x534000, x534001 => if x25 = true then ((imageeditorlaw12_awake.f k).bind fun t540 => (some t540)) else ((affine_Then.f k x532000 x532001 x532002 x532003 x532004 x532005 x533000 x533001 x533002 x533003 x533004 x533005).bind fun bt541 => ((affine_Apply.f k bt541.1 bt541.2.1 bt541.2.2.1 bt541.2.2.2.1 bt541.2.2.2.2.1 bt541.2.2.2.2.2 x534000 x534001).bind fun bt547 => ((affine_Apply.f k x532000 x532001 x532002 x532003 x532004 x532005 x534000 x534001).bind fun bt549 => ((affine_Apply.f k x533000 x533001 x533002 x533003 x533004 x533005 bt549.1 bt549.2).bind fun bt551 => ((imageeditorlaw12_within.f k 1099511627776 (([bt547.1, bt547.2, bt551.1, bt551.2] : List Int))).bind fun t558 => (if t558 = true then ((imageeditorlaw12_within.f k 262 (([wrap64 (bt547.1 - bt551.1), wrap64 (bt547.2 - bt551.2)] : List Int))).bind fun t562 => (if t562 = true then ((imageeditorlaw12_awake.f k).bind fun t563 => (some t563)) else (none))) else (none)))))))
def imageeditorlaw12_AffineComposes.f (k : Nat) (a0_0 : Int) (a0_1 : Int) (a0_2 : Int) (a0_3 : Int) (a0_4 : Int) (a0_5 : Int) (a1_0 : Int) (a1_1 : Int) (a1_2 : Int) (a1_3 : Int) (a1_4 : Int) (a1_5 : Int) (a2_0 : Int) (a2_1 : Int) : Option (Bool) := (imageeditorlaw12_small.f k a0_0 a0_1 a0_2 a0_3 a0_4 a0_5 68719476736).bind fun t534 => (if t534 = true then ((imageeditorlaw12_small.f k a1_0 a1_1 a1_2 a1_3 a1_4 a1_5 68719476736).bind fun t535 => (if t535 = true then ((imageeditorlaw12_within.f k 16777216 (([a2_0, a2_1] : List Int))).bind fun t539 => (imageeditorlaw12_AffineComposes.j0 k (!t539) a0_0 a0_1 a0_2 a0_3 a0_4 a0_5 a1_0 a1_1 a1_2 a1_3 a1_4 a1_5 a2_0 a2_1)) else (imageeditorlaw12_AffineComposes.j0 k true a0_0 a0_1 a0_2 a0_3 a0_4 a0_5 a1_0 a1_1 a1_2 a1_3 a1_4 a1_5 a2_0 a2_1))) else (imageeditorlaw12_AffineComposes.j0 k true a0_0 a0_1 a0_2 a0_3 a0_4 a0_5 a1_0 a1_1 a1_2 a1_3 a1_4 a1_5 a2_0 a2_1))
theorem imageeditorlaw12_AffineComposes.mono_l : ∀ k, (∀ y0 y1 y2 y3 y4 y5 y6 y7 y8 y9 y10 y11 y12 y13 y14, LeO (imageeditorlaw12_AffineComposes.j0 k y0 y1 y2 y3 y4 y5 y6 y7 y8 y9 y10 y11 y12 y13 y14) (imageeditorlaw12_AffineComposes.j0 (k + 1) y0 y1 y2 y3 y4 y5 y6 y7 y8 y9 y10 y11 y12 y13 y14))
  | 0 => fun _ _ _ _ _ _ _ _ _ _ _ _ _ _ _ r h => by simp [imageeditorlaw12_AffineComposes.j0] at h
  | k + 1 => by
    have ih0 := imageeditorlaw12_AffineComposes.mono_l k
    · intro y0 y1 y2 y3 y4 y5 y6 y7 y8 y9 y10 y11 y12 y13 y14
      unfold imageeditorlaw12_AffineComposes.j0
      repeat' first
      | (with_reducible exact ih0 _ _ _ _ _ _ _ _ _ _ _ _ _ _ _)
      | (with_reducible exact affine_Apply.mono _ _ _ _ _ _ _ _ _)
      | (with_reducible exact affine_Then.mono _ _ _ _ _ _ _ _ _ _ _ _ _)
      | (with_reducible exact imageeditorlaw12_awake.mono _)
      | (with_reducible exact imageeditorlaw12_small.mono _ _ _ _ _ _ _ _)
      | (with_reducible exact imageeditorlaw12_within.mono _ _ _)
      | (with_reducible exact LeO.refl _)
      | (with_reducible exact LeO.none _)
      | (with_reducible refine LeO.ite ?_ ?_)
      | (with_reducible refine LeO.bind ?_ (fun _ => ?_))
      | exact ih0 _ _ _ _ _ _ _ _ _ _ _ _ _ _ _
      | exact affine_Apply.mono _ _ _ _ _ _ _ _ _
      | exact affine_Then.mono _ _ _ _ _ _ _ _ _ _ _ _ _
      | exact imageeditorlaw12_awake.mono _
      | exact imageeditorlaw12_small.mono _ _ _ _ _ _ _ _
      | exact imageeditorlaw12_within.mono _ _ _
      | exact LeO.none _
      | refine LeO.ite ?_ ?_
      | refine LeO.bind ?_ (fun _ => ?_)
theorem imageeditorlaw12_AffineComposes.mono : ∀ a0 a1 a2 a3 a4 a5 a6 a7 a8 a9 a10 a11 a12 a13 k, LeO (imageeditorlaw12_AffineComposes.f k a0 a1 a2 a3 a4 a5 a6 a7 a8 a9 a10 a11 a12 a13) (imageeditorlaw12_AffineComposes.f (k + 1) a0 a1 a2 a3 a4 a5 a6 a7 a8 a9 a10 a11 a12 a13) := by
  intro a0 a1 a2 a3 a4 a5 a6 a7 a8 a9 a10 a11 a12 a13 k
  have ih0 := imageeditorlaw12_AffineComposes.mono_l k
  unfold imageeditorlaw12_AffineComposes.f
  repeat' first
      | (with_reducible exact ih0 _ _ _ _ _ _ _ _ _ _ _ _ _ _ _)
      | (with_reducible exact affine_Apply.mono _ _ _ _ _ _ _ _ _)
      | (with_reducible exact affine_Then.mono _ _ _ _ _ _ _ _ _ _ _ _ _)
      | (with_reducible exact imageeditorlaw12_awake.mono _)
      | (with_reducible exact imageeditorlaw12_small.mono _ _ _ _ _ _ _ _)
      | (with_reducible exact imageeditorlaw12_within.mono _ _ _)
      | (with_reducible exact LeO.refl _)
      | (with_reducible exact LeO.none _)
      | (with_reducible refine LeO.ite ?_ ?_)
      | (with_reducible refine LeO.bind ?_ (fun _ => ?_))
      | exact ih0 _ _ _ _ _ _ _ _ _ _ _ _ _ _ _
      | exact affine_Apply.mono _ _ _ _ _ _ _ _ _
      | exact affine_Then.mono _ _ _ _ _ _ _ _ _ _ _ _ _
      | exact imageeditorlaw12_awake.mono _
      | exact imageeditorlaw12_small.mono _ _ _ _ _ _ _ _
      | exact imageeditorlaw12_within.mono _ _ _
      | exact LeO.none _
      | refine LeO.ite ?_ ?_
      | refine LeO.bind ?_ (fun _ => ?_)
def imageeditorlaw12_AffineComposes.T3 : Bool × List (List Nat × List Nat) := (true, [([], []), ([], []), ([0, 1], [0, 1]), ([], []), ([2, 3, 2], [2, 3]), ([], []), ([], []), ([], []), ([6, 7, 4], [6, 7]), ([5, 8, 8], [5, 8]), ([], []), ([], []), ([10, 4, 9, 0, 1, 2, 3, 4, 10, 11], [4, 10]), ([11, 9, 12, 0, 1, 2, 3, 4, 5, 6, 7, 8, 9, 10, 11, 12], [9, 11])])
def imageeditorlaw12_AffineComposes.B3 : List Nat := [0, 0, 3, 0, 15, 0, 0, 0, 223, 511, 0, 0, 4095, 8191]
theorem imageeditorlaw12_AffineComposes.tab3 : rtab .any (opsOf Try.f7 3) = imageeditorlaw12_AffineComposes.T3 := by kernel_rfl
theorem imageeditorlaw12_AffineComposes.bits3 : waitsOk imageeditorlaw12_AffineComposes.T3.2 imageeditorlaw12_AffineComposes.B3 = true := by kernel_rfl
set_option maxHeartbeats 8000000 in
set_option maxRecDepth 100000 in
theorem imageeditorlaw12_AffineComposes.calls (k : Nat) (a0_0 : Int) (a0_1 : Int) (a0_2 : Int) (a0_3 : Int) (a0_4 : Int) (a0_5 : Int) (a1_0 : Int) (a1_1 : Int) (a1_2 : Int) (a1_3 : Int) (a1_4 : Int) (a1_5 : Int) (a2_0 : Int) (a2_1 : Int) (r : Bool) (w : World) (h : imageeditorlaw12_AffineComposes.f k a0_0 a0_1 a0_2 a0_3 a0_4 a0_5 a1_0 a1_1 a1_2 a1_3 a1_4 a1_5 a2_0 a2_1 = some r) :
    Calls Try.prog 7 #[.agg #[.int .i64 a0_0, .int .i64 a0_1, .int .i64 a0_2, .int .i64 a0_3, .int .i64 a0_4, .int .i64 a0_5], .agg #[.int .i64 a1_0, .int .i64 a1_1, .int .i64 a1_2, .int .i64 a1_3, .int .i64 a1_4, .int .i64 a1_5], .agg #[.int .i64 a2_0, .int .i64 a2_1]] w fun e w' => e = .returned (.bool r) ∧ Below w.heap.size w w' := by
  have hu23 := Try.underlying23
  have hu25 := Try.underlying25
  have HB := Aside0.mk (Below.refl w.heap.size w)
  have H : ((imageeditorlaw12_small.f k a0_0 a0_1 a0_2 a0_3 a0_4 a0_5 68719476736).bind fun t534 => (if t534 = true then ((imageeditorlaw12_small.f k a1_0 a1_1 a1_2 a1_3 a1_4 a1_5 68719476736).bind fun t535 => (if t535 = true then ((imageeditorlaw12_within.f k 16777216 (([a2_0, a2_1] : List Int))).bind fun t539 => (imageeditorlaw12_AffineComposes.j0 k (!t539) a0_0 a0_1 a0_2 a0_3 a0_4 a0_5 a1_0 a1_1 a1_2 a1_3 a1_4 a1_5 a2_0 a2_1)) else (imageeditorlaw12_AffineComposes.j0 k true a0_0 a0_1 a0_2 a0_3 a0_4 a0_5 a1_0 a1_1 a1_2 a1_3 a1_4 a1_5 a2_0 a2_1))) else (imageeditorlaw12_AffineComposes.j0 k true a0_0 a0_1 a0_2 a0_3 a0_4 a0_5 a1_0 a1_1 a1_2 a1_3 a1_4 a1_5 a2_0 a2_1))) = some r := h
  clear h
  have HC4 := Aside0.mk H
  clear H
  go_enter Try.func7, Try.ntmps7
  go_upto_region 1 with (first | ((with_reducible refine gate_dst (N := 3) rfl ?_); (try (refine gate_grd (by rfl) ?_; dsimp only)); refine box_event ?hg (N := 3) ?hd (cs := #[.int .i64 a0_0, .int .i64 a0_1, .int .i64 a0_2, .int .i64 a0_3, .int .i64 a0_4, .int .i64 a0_5]) (t := 23) ?hr ?_; (case hd => rfl); (case hg => rfl); (case hr => first | (go_simp; done) | (go_simp; rfl)); intro gb531 hg w5 hbox hb; have n0_ := Aside0.mk (below_step (by repeat (first | (with_reducible first | exact HB.out | apply below_alloc | apply pw_below_drewN | apply below_drew1) | exact HB.out)) hb); have n1_ := Aside0.mk (hbox); have n2_ := Aside0.mk ((by rw [hg]; exact (below_size (by repeat (first | (with_reducible first | exact HB.out | apply below_alloc | apply pw_below_drewN | apply below_drew1) | exact HB.out))) : w.heap.size ≤ gb531)); have n3_ := Aside0.mk ((by rw [hg]; exact (below_size (by repeat (first | (with_reducible first | exact HB.out | apply below_alloc | apply pw_below_drewN | apply below_drew1) | exact HB.out))) : w.heap.size ≤ gb531)); clear HB; have HB := n0_; have BK531 := n1_; have GW531 := n2_; have GE531 := n3_; clear n0_ n1_ n2_ n3_; clear hb hbox hg) | ((with_reducible refine gate_dst (N := 4) rfl ?_); (try (refine gate_grd (by rfl) ?_; dsimp only)); refine box_event ?hg (N := 4) ?hd (cs := #[.int .i64 a1_0, .int .i64 a1_1, .int .i64 a1_2, .int .i64 a1_3, .int .i64 a1_4, .int .i64 a1_5]) (t := 23) ?hr ?_; (case hd => rfl); (case hg => rfl); (case hr => first | (go_simp; done) | (go_simp; rfl)); intro gb532 hg w6 hbox hb; have n0_ := Aside0.mk (blk_below (g := gb531) (o := .cells #[.int .i64 a0_0, .int .i64 a0_1, .int .i64 a0_2, .int .i64 a0_3, .int .i64 a0_4, .int .i64 a0_5] 23 (0, 0)) (by (with_reducible repeat (first | refine blk_drewN ?_ _ | refine blk_drew ?_ | refine blk_alloc ?_ _)); exact BK531.out) hb); have n1_ := Aside0.mk (below_step (by repeat (first | (with_reducible first | exact HB.out | apply below_alloc | apply pw_below_drewN | apply below_drew1 | refine below_set ?_ GE531.out) | exact HB.out)) hb); have n2_ := Aside0.mk (hbox); have n3_ := Aside0.mk ((by rw [hg]; exact (below_size (by repeat (first | (with_reducible first | exact HB.out | apply below_alloc | apply pw_below_drewN | apply below_drew1 | refine below_set ?_ GE531.out) | exact HB.out))) : w.heap.size ≤ gb532)); have n4_ := Aside0.mk ((by rw [hg]; exact (below_size (by repeat (first | (with_reducible first | exact HB.out | apply below_alloc | apply pw_below_drewN | apply below_drew1 | refine below_set ?_ GE531.out) | exact HB.out))) : w.heap.size ≤ gb532)); have n5_ := Aside0.mk ((by rw [hg]; exact Nat.ne_of_lt (blk_lt (g := gb531) (o := .cells #[.int .i64 a0_0, .int .i64 a0_1, .int .i64 a0_2, .int .i64 a0_3, .int .i64 a0_4, .int .i64 a0_5] 23 (0, 0)) (by (with_reducible repeat (first | refine blk_drewN ?_ _ | refine blk_drew ?_ | refine blk_alloc ?_ _)); exact BK531.out)) : gb531 ≠ gb532)); have n6_ := Aside0.mk ((by rw [hg]; exact Nat.ne_of_gt (blk_lt (g := gb531) (o := .cells #[.int .i64 a0_0, .int .i64 a0_1, .int .i64 a0_2, .int .i64 a0_3, .int .i64 a0_4, .int .i64 a0_5] 23 (0, 0)) (by (with_reducible repeat (first | refine blk_drewN ?_ _ | refine blk_drew ?_ | refine blk_alloc ?_ _)); exact BK531.out)) : gb532 ≠ gb531)); clear BK531; clear HB; have BK531 := n0_; have HB := n1_; have BK532 := n2_; have GW532 := n3_; have GE532 := n4_; have NB531_532 := n5_; have NB532_531 := n6_; clear n0_ n1_ n2_ n3_ n4_ n5_ n6_; clear hb hbox hg) | ((with_reducible refine gate_dst (N := 5) rfl ?_); (try (refine gate_grd (by rfl) ?_; dsimp only)); refine box_event ?hg (N := 5) ?hd (cs := #[.int .i64 a2_0, .int .i64 a2_1]) (t := 25) ?hr ?_; (case hd => rfl); (case hg => rfl); (case hr => first | (go_simp; done) | (go_simp; rfl)); intro gb533 hg w7 hbox hb; have n0_ := Aside0.mk (blk_below (g := gb531) (o := .cells #[.int .i64 a0_0, .int .i64 a0_1, .int .i64 a0_2, .int .i64 a0_3, .int .i64 a0_4, .int .i64 a0_5] 23 (0, 0)) (by (with_reducible repeat (first | refine blk_drewN ?_ _ | refine blk_drew ?_ | refine blk_alloc ?_ _)); exact BK531.out) hb); have n1_ := Aside0.mk (blk_below (g := gb532) (o := .cells #[.int .i64 a1_0, .int .i64 a1_1, .int .i64 a1_2, .int .i64 a1_3, .int .i64 a1_4, .int .i64 a1_5] 23 (0, 0)) (by (with_reducible repeat (first | refine blk_drewN ?_ _ | refine blk_drew ?_ | refine blk_alloc ?_ _)); exact BK532.out) hb); have n2_ := Aside0.mk (below_step (by repeat (first | (with_reducible first | exact HB.out | apply below_alloc | apply pw_below_drewN | apply below_drew1 | refine below_set ?_ GE531.out | refine below_set ?_ GE532.out) | exact HB.out)) hb); have n3_ := Aside0.mk (hbox); have n4_ := Aside0.mk ((by rw [hg]; exact (below_size (by repeat (first | (with_reducible first | exact HB.out | apply below_alloc | apply pw_below_drewN | apply below_drew1 | refine below_set ?_ GE531.out | refine below_set ?_ GE532.out) | exact HB.out))) : w.heap.size ≤ gb533)); have n5_ := Aside0.mk ((by rw [hg]; exact (below_size (by repeat (first | (with_reducible first | exact HB.out | apply below_alloc | apply pw_below_drewN | apply below_drew1 | refine below_set ?_ GE531.out | refine below_set ?_ GE532.out) | exact HB.out))) : w.heap.size ≤ gb533)); have n6_ := Aside0.mk ((by rw [hg]; exact Nat.ne_of_lt (blk_lt (g := gb531) (o := .cells #[.int .i64 a0_0, .int .i64 a0_1, .int .i64 a0_2, .int .i64 a0_3, .int .i64 a0_4, .int .i64 a0_5] 23 (0, 0)) (by (with_reducible repeat (first | refine blk_drewN ?_ _ | refine blk_drew ?_ | refine blk_alloc ?_ _)); exact BK531.out)) : gb531 ≠ gb533)); have n7_ := Aside0.mk ((by rw [hg]; exact Nat.ne_of_gt (blk_lt (g := gb531) (o := .cells #[.int .i64 a0_0, .int .i64 a0_1, .int .i64 a0_2, .int .i64 a0_3, .int .i64 a0_4, .int .i64 a0_5] 23 (0, 0)) (by (with_reducible repeat (first | refine blk_drewN ?_ _ | refine blk_drew ?_ | refine blk_alloc ?_ _)); exact BK531.out)) : gb533 ≠ gb531)); have n8_ := Aside0.mk ((by rw [hg]; exact Nat.ne_of_lt (blk_lt (g := gb532) (o := .cells #[.int .i64 a1_0, .int .i64 a1_1, .int .i64 a1_2, .int .i64 a1_3, .int .i64 a1_4, .int .i64 a1_5] 23 (0, 0)) (by (with_reducible repeat (first | refine blk_drewN ?_ _ | refine blk_drew ?_ | refine blk_alloc ?_ _)); exact BK532.out)) : gb532 ≠ gb533)); have n9_ := Aside0.mk ((by rw [hg]; exact Nat.ne_of_gt (blk_lt (g := gb532) (o := .cells #[.int .i64 a1_0, .int .i64 a1_1, .int .i64 a1_2, .int .i64 a1_3, .int .i64 a1_4, .int .i64 a1_5] 23 (0, 0)) (by (with_reducible repeat (first | refine blk_drewN ?_ _ | refine blk_drew ?_ | refine blk_alloc ?_ _)); exact BK532.out)) : gb533 ≠ gb532)); clear BK531; clear BK532; clear HB; have BK531 := n0_; have BK532 := n1_; have HB := n2_; have BK533 := n3_; have GW533 := n4_; have GE533 := n5_; have NB531_533 := n6_; have NB533_531 := n7_; have NB532_533 := n8_; have NB533_532 := n9_; clear n0_ n1_ n2_ n3_ n4_ n5_ n6_ n7_ n8_ n9_; clear hb hbox hg))
  (try simp only [Act.put, List.setIfInBounds_toArray, List.set_cons_zero, List.set_cons_succ])
  go_cut [25] (fun v25 wc => ∃ (kq : Nat) (x25_3 : Bool), v25 = .bool x25_3 ∧ Aside0 (imageeditorlaw12_AffineComposes.j0 kq x25_3 a0_0 a0_1 a0_2 a0_3 a0_4 a0_5 a1_0 a1_1 a1_2 a1_3 a1_4 a1_5 a2_0 a2_1 = some r) ∧ Aside0 (kq ≤ k) ∧ Aside0 (wc.heap[gb531]? = some (.cells #[.int .i64 a0_0, .int .i64 a0_1, .int .i64 a0_2, .int .i64 a0_3, .int .i64 a0_4, .int .i64 a0_5] 23 (0, 0))) ∧ Aside0 (wc.heap[gb532]? = some (.cells #[.int .i64 a1_0, .int .i64 a1_1, .int .i64 a1_2, .int .i64 a1_3, .int .i64 a1_4, .int .i64 a1_5] 23 (0, 0))) ∧ Aside0 (wc.heap[gb533]? = some (.cells #[.int .i64 a2_0, .int .i64 a2_1] 25 (0, 0))) ∧ Aside0 (Below w.heap.size w wc))
  case first =>
    have H := HC4.out
    clear HC4
    replace H := Option.bind_eq_some_iff.mp H
    obtain ⟨t534, A80, H⟩ := H
    replace H : (if t534 = true then ((imageeditorlaw12_small.f k a1_0 a1_1 a1_2 a1_3 a1_4 a1_5 68719476736).bind fun t535 => (if t535 = true then ((imageeditorlaw12_within.f k 16777216 (([a2_0, a2_1] : List Int))).bind fun t539 => (imageeditorlaw12_AffineComposes.j0 k (!t539) a0_0 a0_1 a0_2 a0_3 a0_4 a0_5 a1_0 a1_1 a1_2 a1_3 a1_4 a1_5 a2_0 a2_1)) else (imageeditorlaw12_AffineComposes.j0 k true a0_0 a0_1 a0_2 a0_3 a0_4 a0_5 a1_0 a1_1 a1_2 a1_3 a1_4 a1_5 a2_0 a2_1))) else (imageeditorlaw12_AffineComposes.j0 k true a0_0 a0_1 a0_2 a0_3 a0_4 a0_5 a1_0 a1_1 a1_2 a1_3 a1_4 a1_5 a2_0 a2_1)) = some r := H
    have A8 := Aside0.mk A80
    clear A80
    by_cases c9 : t534 = true
    · subst c9
      have H1 : ((imageeditorlaw12_small.f k a1_0 a1_1 a1_2 a1_3 a1_4 a1_5 68719476736).bind fun t535 => (if t535 = true then ((imageeditorlaw12_within.f k 16777216 (([a2_0, a2_1] : List Int))).bind fun t539 => (imageeditorlaw12_AffineComposes.j0 k (!t539) a0_0 a0_1 a0_2 a0_3 a0_4 a0_5 a1_0 a1_1 a1_2 a1_3 a1_4 a1_5 a2_0 a2_1)) else (imageeditorlaw12_AffineComposes.j0 k true a0_0 a0_1 a0_2 a0_3 a0_4 a0_5 a1_0 a1_1 a1_2 a1_3 a1_4 a1_5 a2_0 a2_1))) = some r := by rw [if_pos rfl] at H; exact H
      clear H
      have H := H1
      clear H1
      replace H := Option.bind_eq_some_iff.mp H
      obtain ⟨t535, A100, H⟩ := H
      replace H : (if t535 = true then ((imageeditorlaw12_within.f k 16777216 (([a2_0, a2_1] : List Int))).bind fun t539 => (imageeditorlaw12_AffineComposes.j0 k (!t539) a0_0 a0_1 a0_2 a0_3 a0_4 a0_5 a1_0 a1_1 a1_2 a1_3 a1_4 a1_5 a2_0 a2_1)) else (imageeditorlaw12_AffineComposes.j0 k true a0_0 a0_1 a0_2 a0_3 a0_4 a0_5 a1_0 a1_1 a1_2 a1_3 a1_4 a1_5 a2_0 a2_1)) = some r := H
      have A10 := Aside0.mk A100
      clear A100
      by_cases c11 : t535 = true
      · subst c11
        have H1 : ((imageeditorlaw12_within.f k 16777216 (([a2_0, a2_1] : List Int))).bind fun t539 => (imageeditorlaw12_AffineComposes.j0 k (!t539) a0_0 a0_1 a0_2 a0_3 a0_4 a0_5 a1_0 a1_1 a1_2 a1_3 a1_4 a1_5 a2_0 a2_1)) = some r := by rw [if_pos rfl] at H; exact H
        clear H
        have H := H1
        clear H1
        obtain ⟨y536, hy536⟩ : ∃ y_ : List Int, y_ = (([a2_0, a2_1] : List Int)) := ⟨_, rfl⟩
        replace H : ((imageeditorlaw12_within.f k 16777216 y536).bind fun t539 => (imageeditorlaw12_AffineComposes.j0 k (!t539) a0_0 a0_1 a0_2 a0_3 a0_4 a0_5 a1_0 a1_1 a1_2 a1_3 a1_4 a1_5 a2_0 a2_1)) = some r := by first | (rw [hy536]; with_reducible exact H) | (have H2_ := (Option.bind_some _ _).symm.trans H; rw [hy536]; with_reducible exact H2_) | (have H2_ := (Option.bind_some _ _).symm.trans H; with_reducible exact H2_) | with_reducible exact H | (rw [hy536]; exact H) | exact H
        have Ny536 := Aside0.mk hy536
        clear hy536
        replace H := Option.bind_eq_some_iff.mp H
        obtain ⟨t539, A120, H⟩ := H
        replace H : (imageeditorlaw12_AffineComposes.j0 k (!t539) a0_0 a0_1 a0_2 a0_3 a0_4 a0_5 a1_0 a1_1 a1_2 a1_3 a1_4 a1_5 a2_0 a2_1) = some r := H
        have A12 := Aside0.mk A120
        clear A120
        have H' := Aside0.mk H
        clear H
        have hnb13 := NB531_532.out
        have hnc13 := NB532_531.out
        have hnb14 := NB531_533.out
        have hnc14 := NB533_531.out
        have hcz15_0 : w7.cell? ⟨gb531, 0, none⟩ = some (.int .i64 a0_0) := (blk_cell BK531.out 0).trans rfl
        have hcz15_1 : w7.cell? ⟨gb531, 1, none⟩ = some (.int .i64 a0_1) := (blk_cell BK531.out 1).trans rfl
        have hcz15_2 : w7.cell? ⟨gb531, 2, none⟩ = some (.int .i64 a0_2) := (blk_cell BK531.out 2).trans rfl
        have hcz15_3 : w7.cell? ⟨gb531, 3, none⟩ = some (.int .i64 a0_3) := (blk_cell BK531.out 3).trans rfl
        have hcz15_4 : w7.cell? ⟨gb531, 4, none⟩ = some (.int .i64 a0_4) := (blk_cell BK531.out 4).trans rfl
        have hcz15_5 : w7.cell? ⟨gb531, 5, none⟩ = some (.int .i64 a0_5) := (blk_cell BK531.out 5).trans rfl
        have hfz15_0 := blk_frozen BK531.out 0
        have hfz15_1 := blk_frozen BK531.out 1
        have hfz15_2 := blk_frozen BK531.out 2
        have hfz15_3 := blk_frozen BK531.out 3
        have hfz15_4 := blk_frozen BK531.out 4
        have hfz15_5 := blk_frozen BK531.out 5
        go_wp2_with (first | ((with_reducible refine gate_callee (f := 27) rfl ?_); refine goesL_ (some 10) rfl rfl Try.func27 (by kernel_rfl) rfl #[.agg #[.int .i64 a0_0, .int .i64 a0_1, .int .i64 a0_2, .int .i64 a0_3, .int .i64 a0_4, .int .i64 a0_5], .int .i64 68719476736] rfl (by (try simp only [List.map_toArray, List.map_cons, List.map_nil]); first | done | rfl | (simp only [List.length_drop, List.length_take]; rfl)) ?_; (with_reducible refine (imageeditorlaw12_small.calls k a0_0 a0_1 a0_2 a0_3 a0_4 a0_5 68719476736 true _ A8.out).mono ?_); rintro e w16 ⟨rfl, hb⟩; refine ⟨_, rfl, ?_⟩; have n0_ := Aside0.mk (blk_below (g := gb531) (o := .cells #[.int .i64 a0_0, .int .i64 a0_1, .int .i64 a0_2, .int .i64 a0_3, .int .i64 a0_4, .int .i64 a0_5] 23 (0, 0)) (by (with_reducible repeat (first | refine blk_drewN ?_ _ | refine blk_drew ?_ | refine blk_alloc ?_ _)); exact BK531.out) hb); have n1_ := Aside0.mk (blk_below (g := gb532) (o := .cells #[.int .i64 a1_0, .int .i64 a1_1, .int .i64 a1_2, .int .i64 a1_3, .int .i64 a1_4, .int .i64 a1_5] 23 (0, 0)) (by (with_reducible repeat (first | refine blk_drewN ?_ _ | refine blk_drew ?_ | refine blk_alloc ?_ _)); exact BK532.out) hb); have n2_ := Aside0.mk (blk_below (g := gb533) (o := .cells #[.int .i64 a2_0, .int .i64 a2_1] 25 (0, 0)) (by (with_reducible repeat (first | refine blk_drewN ?_ _ | refine blk_drew ?_ | refine blk_alloc ?_ _)); exact BK533.out) hb); have n3_ := Aside0.mk (below_step (by repeat (first | (with_reducible first | exact HB.out | apply below_alloc | apply pw_below_drewN | apply below_drew1 | refine below_set ?_ GE531.out | refine below_set ?_ GE532.out | refine below_set ?_ GE533.out) | exact HB.out)) hb); clear BK531; clear BK532; clear BK533; clear HB; have BK531 := n0_; have BK532 := n1_; have BK533 := n2_; have HB := n3_; clear n0_ n1_ n2_ n3_; (try clear hb); (try clear hb2); (try clear hk); (try clear hi); have hnb17 := NB532_533.out; have hnc17 := NB533_532.out; have hcz18_0 : w16.cell? ⟨gb532, 0, none⟩ = some (.int .i64 a1_0) := (blk_cell BK532.out 0).trans rfl; have hcz18_1 : w16.cell? ⟨gb532, 1, none⟩ = some (.int .i64 a1_1) := (blk_cell BK532.out 1).trans rfl; have hcz18_2 : w16.cell? ⟨gb532, 2, none⟩ = some (.int .i64 a1_2) := (blk_cell BK532.out 2).trans rfl; have hcz18_3 : w16.cell? ⟨gb532, 3, none⟩ = some (.int .i64 a1_3) := (blk_cell BK532.out 3).trans rfl; have hcz18_4 : w16.cell? ⟨gb532, 4, none⟩ = some (.int .i64 a1_4) := (blk_cell BK532.out 4).trans rfl; have hcz18_5 : w16.cell? ⟨gb532, 5, none⟩ = some (.int .i64 a1_5) := (blk_cell BK532.out 5).trans rfl; have hfz18_0 := blk_frozen BK532.out 0; have hfz18_1 := blk_frozen BK532.out 1; have hfz18_2 := blk_frozen BK532.out 2; have hfz18_3 := blk_frozen BK532.out 3; have hfz18_4 := blk_frozen BK532.out 4; have hfz18_5 := blk_frozen BK532.out 5) | (go_at_call 27; (with_reducible refine (imageeditorlaw12_small.calls k a1_0 a1_1 a1_2 a1_3 a1_4 a1_5 68719476736 true _ A10.out).mono ?_); rintro e w19 ⟨rfl, hb⟩; have n0_ := Aside0.mk (blk_below (g := gb531) (o := .cells #[.int .i64 a0_0, .int .i64 a0_1, .int .i64 a0_2, .int .i64 a0_3, .int .i64 a0_4, .int .i64 a0_5] 23 (0, 0)) (by (with_reducible repeat (first | refine blk_drewN ?_ _ | refine blk_drew ?_ | refine blk_alloc ?_ _)); exact BK531.out) hb); have n1_ := Aside0.mk (blk_below (g := gb532) (o := .cells #[.int .i64 a1_0, .int .i64 a1_1, .int .i64 a1_2, .int .i64 a1_3, .int .i64 a1_4, .int .i64 a1_5] 23 (0, 0)) (by (with_reducible repeat (first | refine blk_drewN ?_ _ | refine blk_drew ?_ | refine blk_alloc ?_ _)); exact BK532.out) hb); have n2_ := Aside0.mk (blk_below (g := gb533) (o := .cells #[.int .i64 a2_0, .int .i64 a2_1] 25 (0, 0)) (by (with_reducible repeat (first | refine blk_drewN ?_ _ | refine blk_drew ?_ | refine blk_alloc ?_ _)); exact BK533.out) hb); have n3_ := Aside0.mk (below_step (by repeat (first | (with_reducible first | exact HB.out | apply below_alloc | apply pw_below_drewN | apply below_drew1 | refine below_set ?_ GE531.out | refine below_set ?_ GE532.out | refine below_set ?_ GE533.out) | exact HB.out)) hb); clear BK531; clear BK532; clear BK533; clear HB; have BK531 := n0_; have BK532 := n1_; have BK533 := n2_; have HB := n3_; clear n0_ n1_ n2_ n3_; (try clear hb); (try clear hb2); (try clear hk); (try clear hi); have hcz20_0 : w19.cell? ⟨gb533, 0, none⟩ = some (.int .i64 a2_0) := (blk_cell BK533.out 0).trans rfl; have hcz20_1 : w19.cell? ⟨gb533, 1, none⟩ = some (.int .i64 a2_1) := (blk_cell BK533.out 1).trans rfl; have hfz20_0 := blk_frozen BK533.out 0; have hfz20_1 := blk_frozen BK533.out 1) | ((with_reducible refine gate_dst (N := 22) rfl ?_); (try (refine gate_grd (by rfl) ?_; dsimp only)); refine Kd.R_lit (Kd.int .i64) _ 3 ?hg (N := 22) ?hd (xs := ([a2_0, a2_1] : List Int)) (inner := [.int .i64 a2_0, .int .i64 a2_1]) (ok := fun _ => True) (okp := fun _ => True) ?hr ?hp (fun _ hk => hk) trivial (Below.refl _ _) (Nat.le_refl _) (by simp) ?_; (case hd => rfl); (case hg => rfl); (case hr => first | (go_simp; done) | (go_simp; rfl)); (case hp => exact (Reps.one (show Kd.M (Kd.int .i64) _ _ _ a2_0 [.int .i64 a2_0] from rfl) (Reps.one (show Kd.M (Kd.int .i64) _ _ _ a2_1 [.int .i64 a2_1] from rfl) (Reps.none _ _)))); intro v537 w21 ho22 hb hg_ hnew_; clear hg_ hnew_; (first | rw [← Ny536.out] at ho22 | (simp only [Int.reduceToNat] at ho22; rw [← Ny536.out] at ho22)); have n0_ := Aside0.mk (Kd.R_lower ho22 (below_size (by repeat (first | (with_reducible first | exact HB.out | apply below_alloc | apply pw_below_drewN | apply below_drew1 | refine below_set ?_ GE531.out | refine below_set ?_ GE532.out | refine below_set ?_ GE533.out) | exact HB.out)))); have n1_ := Aside0.mk (blk_below (g := gb531) (o := .cells #[.int .i64 a0_0, .int .i64 a0_1, .int .i64 a0_2, .int .i64 a0_3, .int .i64 a0_4, .int .i64 a0_5] 23 (0, 0)) (by (with_reducible repeat (first | refine blk_drewN ?_ _ | refine blk_drew ?_ | refine blk_alloc ?_ _)); exact BK531.out) hb); have n2_ := Aside0.mk (blk_below (g := gb532) (o := .cells #[.int .i64 a1_0, .int .i64 a1_1, .int .i64 a1_2, .int .i64 a1_3, .int .i64 a1_4, .int .i64 a1_5] 23 (0, 0)) (by (with_reducible repeat (first | refine blk_drewN ?_ _ | refine blk_drew ?_ | refine blk_alloc ?_ _)); exact BK532.out) hb); have n3_ := Aside0.mk (blk_below (g := gb533) (o := .cells #[.int .i64 a2_0, .int .i64 a2_1] 25 (0, 0)) (by (with_reducible repeat (first | refine blk_drewN ?_ _ | refine blk_drew ?_ | refine blk_alloc ?_ _)); exact BK533.out) hb); have n4_ := Aside0.mk (below_step (by repeat (first | (with_reducible first | exact HB.out | apply below_alloc | apply pw_below_drewN | apply below_drew1 | refine below_set ?_ GE531.out | refine below_set ?_ GE532.out | refine below_set ?_ GE533.out) | exact HB.out)) hb); clear BK531; clear BK532; clear BK533; clear HB; have HO538 := n0_; have BK531 := n1_; have BK532 := n2_; have BK533 := n3_; have HB := n4_; clear n0_ n1_ n2_ n3_ n4_; clear hb ho22; obtain ⟨Ao23, co23, eo23⟩ := Kd.R_slice HO538.out; subst eo23) | (go_at_call 25; (with_reducible refine (imageeditorlaw12_within.calls k 16777216 _ _ y536 t539 _ ?side1 ?side2 A12.out).mono ?_); (case side1 => repeat (first | exact (Kd.R_reads' HO538.out).2.2 | (with_reducible refine Kd.C_alloc ?_ _) | (with_reducible refine Kd.C_drewN ?_ _) | (with_reducible refine Kd.C_drew ?_))); (case side2 => exact (Kd.R_reads' HO538.out).2.1); rintro e w' ⟨rfl, ⟨nd, rfl⟩⟩))
        go_meet
        case rel => exact ⟨_, (!t539), (by first | rfl | (simp; done) | (simp [*]; done)), H', ⟨by first | omega | exact Nat.le_refl _⟩, ⟨by (with_reducible repeat (first | refine blk_drewN ?_ _ | refine blk_drew ?_ | refine blk_alloc ?_ _)); exact BK531.out⟩, ⟨by (with_reducible repeat (first | refine blk_drewN ?_ _ | refine blk_drew ?_ | refine blk_alloc ?_ _)); exact BK532.out⟩, ⟨by (with_reducible repeat (first | refine blk_drewN ?_ _ | refine blk_drew ?_ | refine blk_alloc ?_ _)); exact BK533.out⟩, ⟨by repeat (first | (with_reducible first | exact HB.out | apply below_alloc | apply pw_below_drewN | apply below_drew1 | refine below_set ?_ GE531.out | refine below_set ?_ GE532.out | refine below_set ?_ GE533.out) | exact HB.out)⟩⟩
      · replace c11 := Bool.eq_false_iff.mpr c11
        subst c11
        have H1 : (imageeditorlaw12_AffineComposes.j0 k true a0_0 a0_1 a0_2 a0_3 a0_4 a0_5 a1_0 a1_1 a1_2 a1_3 a1_4 a1_5 a2_0 a2_1) = some r := by rw [if_neg (show ¬ (false = true) by decide)] at H; exact H
        clear H
        have H := H1
        clear H1
        have H' := Aside0.mk H
        clear H
        have hnb24 := NB531_532.out
        have hnc24 := NB532_531.out
        have hnb25 := NB531_533.out
        have hnc25 := NB533_531.out
        have hcz26_0 : w7.cell? ⟨gb531, 0, none⟩ = some (.int .i64 a0_0) := (blk_cell BK531.out 0).trans rfl
        have hcz26_1 : w7.cell? ⟨gb531, 1, none⟩ = some (.int .i64 a0_1) := (blk_cell BK531.out 1).trans rfl
        have hcz26_2 : w7.cell? ⟨gb531, 2, none⟩ = some (.int .i64 a0_2) := (blk_cell BK531.out 2).trans rfl
        have hcz26_3 : w7.cell? ⟨gb531, 3, none⟩ = some (.int .i64 a0_3) := (blk_cell BK531.out 3).trans rfl
        have hcz26_4 : w7.cell? ⟨gb531, 4, none⟩ = some (.int .i64 a0_4) := (blk_cell BK531.out 4).trans rfl
        have hcz26_5 : w7.cell? ⟨gb531, 5, none⟩ = some (.int .i64 a0_5) := (blk_cell BK531.out 5).trans rfl
        have hfz26_0 := blk_frozen BK531.out 0
        have hfz26_1 := blk_frozen BK531.out 1
        have hfz26_2 := blk_frozen BK531.out 2
        have hfz26_3 := blk_frozen BK531.out 3
        have hfz26_4 := blk_frozen BK531.out 4
        have hfz26_5 := blk_frozen BK531.out 5
        go_wp2_with (first | ((with_reducible refine gate_callee (f := 27) rfl ?_); refine goesL_ (some 10) rfl rfl Try.func27 (by kernel_rfl) rfl #[.agg #[.int .i64 a0_0, .int .i64 a0_1, .int .i64 a0_2, .int .i64 a0_3, .int .i64 a0_4, .int .i64 a0_5], .int .i64 68719476736] rfl (by (try simp only [List.map_toArray, List.map_cons, List.map_nil]); first | done | rfl | (simp only [List.length_drop, List.length_take]; rfl)) ?_; (with_reducible refine (imageeditorlaw12_small.calls k a0_0 a0_1 a0_2 a0_3 a0_4 a0_5 68719476736 true _ A8.out).mono ?_); rintro e w27 ⟨rfl, hb⟩; refine ⟨_, rfl, ?_⟩; have n0_ := Aside0.mk (blk_below (g := gb531) (o := .cells #[.int .i64 a0_0, .int .i64 a0_1, .int .i64 a0_2, .int .i64 a0_3, .int .i64 a0_4, .int .i64 a0_5] 23 (0, 0)) (by (with_reducible repeat (first | refine blk_drewN ?_ _ | refine blk_drew ?_ | refine blk_alloc ?_ _)); exact BK531.out) hb); have n1_ := Aside0.mk (blk_below (g := gb532) (o := .cells #[.int .i64 a1_0, .int .i64 a1_1, .int .i64 a1_2, .int .i64 a1_3, .int .i64 a1_4, .int .i64 a1_5] 23 (0, 0)) (by (with_reducible repeat (first | refine blk_drewN ?_ _ | refine blk_drew ?_ | refine blk_alloc ?_ _)); exact BK532.out) hb); have n2_ := Aside0.mk (blk_below (g := gb533) (o := .cells #[.int .i64 a2_0, .int .i64 a2_1] 25 (0, 0)) (by (with_reducible repeat (first | refine blk_drewN ?_ _ | refine blk_drew ?_ | refine blk_alloc ?_ _)); exact BK533.out) hb); have n3_ := Aside0.mk (below_step (by repeat (first | (with_reducible first | exact HB.out | apply below_alloc | apply pw_below_drewN | apply below_drew1 | refine below_set ?_ GE531.out | refine below_set ?_ GE532.out | refine below_set ?_ GE533.out) | exact HB.out)) hb); clear BK531; clear BK532; clear BK533; clear HB; have BK531 := n0_; have BK532 := n1_; have BK533 := n2_; have HB := n3_; clear n0_ n1_ n2_ n3_; (try clear hb); (try clear hb2); (try clear hk); (try clear hi); have hnb28 := NB532_533.out; have hnc28 := NB533_532.out; have hcz29_0 : w27.cell? ⟨gb532, 0, none⟩ = some (.int .i64 a1_0) := (blk_cell BK532.out 0).trans rfl; have hcz29_1 : w27.cell? ⟨gb532, 1, none⟩ = some (.int .i64 a1_1) := (blk_cell BK532.out 1).trans rfl; have hcz29_2 : w27.cell? ⟨gb532, 2, none⟩ = some (.int .i64 a1_2) := (blk_cell BK532.out 2).trans rfl; have hcz29_3 : w27.cell? ⟨gb532, 3, none⟩ = some (.int .i64 a1_3) := (blk_cell BK532.out 3).trans rfl; have hcz29_4 : w27.cell? ⟨gb532, 4, none⟩ = some (.int .i64 a1_4) := (blk_cell BK532.out 4).trans rfl; have hcz29_5 : w27.cell? ⟨gb532, 5, none⟩ = some (.int .i64 a1_5) := (blk_cell BK532.out 5).trans rfl; have hfz29_0 := blk_frozen BK532.out 0; have hfz29_1 := blk_frozen BK532.out 1; have hfz29_2 := blk_frozen BK532.out 2; have hfz29_3 := blk_frozen BK532.out 3; have hfz29_4 := blk_frozen BK532.out 4; have hfz29_5 := blk_frozen BK532.out 5) | (go_at_call 27; (with_reducible refine (imageeditorlaw12_small.calls k a1_0 a1_1 a1_2 a1_3 a1_4 a1_5 68719476736 false _ A10.out).mono ?_); rintro e w30 ⟨rfl, hb⟩; have n0_ := Aside0.mk (blk_below (g := gb531) (o := .cells #[.int .i64 a0_0, .int .i64 a0_1, .int .i64 a0_2, .int .i64 a0_3, .int .i64 a0_4, .int .i64 a0_5] 23 (0, 0)) (by (with_reducible repeat (first | refine blk_drewN ?_ _ | refine blk_drew ?_ | refine blk_alloc ?_ _)); exact BK531.out) hb); have n1_ := Aside0.mk (blk_below (g := gb532) (o := .cells #[.int .i64 a1_0, .int .i64 a1_1, .int .i64 a1_2, .int .i64 a1_3, .int .i64 a1_4, .int .i64 a1_5] 23 (0, 0)) (by (with_reducible repeat (first | refine blk_drewN ?_ _ | refine blk_drew ?_ | refine blk_alloc ?_ _)); exact BK532.out) hb); have n2_ := Aside0.mk (blk_below (g := gb533) (o := .cells #[.int .i64 a2_0, .int .i64 a2_1] 25 (0, 0)) (by (with_reducible repeat (first | refine blk_drewN ?_ _ | refine blk_drew ?_ | refine blk_alloc ?_ _)); exact BK533.out) hb); have n3_ := Aside0.mk (below_step (by repeat (first | (with_reducible first | exact HB.out | apply below_alloc | apply pw_below_drewN | apply below_drew1 | refine below_set ?_ GE531.out | refine below_set ?_ GE532.out | refine below_set ?_ GE533.out) | exact HB.out)) hb); clear BK531; clear BK532; clear BK533; clear HB; have BK531 := n0_; have BK532 := n1_; have BK533 := n2_; have HB := n3_; clear n0_ n1_ n2_ n3_; (try clear hb); (try clear hb2); (try clear hk); (try clear hi)))
        go_meet
        case rel => exact ⟨_, (true), (by first | rfl | (simp; done) | (simp [*]; done)), H', ⟨by first | omega | exact Nat.le_refl _⟩, ⟨by (with_reducible repeat (first | refine blk_drewN ?_ _ | refine blk_drew ?_ | refine blk_alloc ?_ _)); exact BK531.out⟩, ⟨by (with_reducible repeat (first | refine blk_drewN ?_ _ | refine blk_drew ?_ | refine blk_alloc ?_ _)); exact BK532.out⟩, ⟨by (with_reducible repeat (first | refine blk_drewN ?_ _ | refine blk_drew ?_ | refine blk_alloc ?_ _)); exact BK533.out⟩, ⟨by repeat (first | (with_reducible first | exact HB.out | apply below_alloc | apply pw_below_drewN | apply below_drew1 | refine below_set ?_ GE531.out | refine below_set ?_ GE532.out | refine below_set ?_ GE533.out) | exact HB.out)⟩⟩
    · replace c9 := Bool.eq_false_iff.mpr c9
      subst c9
      have H1 : (imageeditorlaw12_AffineComposes.j0 k true a0_0 a0_1 a0_2 a0_3 a0_4 a0_5 a1_0 a1_1 a1_2 a1_3 a1_4 a1_5 a2_0 a2_1) = some r := by rw [if_neg (show ¬ (false = true) by decide)] at H; exact H
      clear H
      have H := H1
      clear H1
      have H' := Aside0.mk H
      clear H
      have hnb31 := NB531_532.out
      have hnc31 := NB532_531.out
      have hnb32 := NB531_533.out
      have hnc32 := NB533_531.out
      have hcz33_0 : w7.cell? ⟨gb531, 0, none⟩ = some (.int .i64 a0_0) := (blk_cell BK531.out 0).trans rfl
      have hcz33_1 : w7.cell? ⟨gb531, 1, none⟩ = some (.int .i64 a0_1) := (blk_cell BK531.out 1).trans rfl
      have hcz33_2 : w7.cell? ⟨gb531, 2, none⟩ = some (.int .i64 a0_2) := (blk_cell BK531.out 2).trans rfl
      have hcz33_3 : w7.cell? ⟨gb531, 3, none⟩ = some (.int .i64 a0_3) := (blk_cell BK531.out 3).trans rfl
      have hcz33_4 : w7.cell? ⟨gb531, 4, none⟩ = some (.int .i64 a0_4) := (blk_cell BK531.out 4).trans rfl
      have hcz33_5 : w7.cell? ⟨gb531, 5, none⟩ = some (.int .i64 a0_5) := (blk_cell BK531.out 5).trans rfl
      have hfz33_0 := blk_frozen BK531.out 0
      have hfz33_1 := blk_frozen BK531.out 1
      have hfz33_2 := blk_frozen BK531.out 2
      have hfz33_3 := blk_frozen BK531.out 3
      have hfz33_4 := blk_frozen BK531.out 4
      have hfz33_5 := blk_frozen BK531.out 5
      go_wp2_with (first | ((with_reducible refine gate_callee (f := 27) rfl ?_); refine goesL_ (some 10) rfl rfl Try.func27 (by kernel_rfl) rfl #[.agg #[.int .i64 a0_0, .int .i64 a0_1, .int .i64 a0_2, .int .i64 a0_3, .int .i64 a0_4, .int .i64 a0_5], .int .i64 68719476736] rfl (by (try simp only [List.map_toArray, List.map_cons, List.map_nil]); first | done | rfl | (simp only [List.length_drop, List.length_take]; rfl)) ?_; (with_reducible refine (imageeditorlaw12_small.calls k a0_0 a0_1 a0_2 a0_3 a0_4 a0_5 68719476736 false _ A8.out).mono ?_); rintro e w34 ⟨rfl, hb⟩; refine ⟨_, rfl, ?_⟩; have n0_ := Aside0.mk (blk_below (g := gb531) (o := .cells #[.int .i64 a0_0, .int .i64 a0_1, .int .i64 a0_2, .int .i64 a0_3, .int .i64 a0_4, .int .i64 a0_5] 23 (0, 0)) (by (with_reducible repeat (first | refine blk_drewN ?_ _ | refine blk_drew ?_ | refine blk_alloc ?_ _)); exact BK531.out) hb); have n1_ := Aside0.mk (blk_below (g := gb532) (o := .cells #[.int .i64 a1_0, .int .i64 a1_1, .int .i64 a1_2, .int .i64 a1_3, .int .i64 a1_4, .int .i64 a1_5] 23 (0, 0)) (by (with_reducible repeat (first | refine blk_drewN ?_ _ | refine blk_drew ?_ | refine blk_alloc ?_ _)); exact BK532.out) hb); have n2_ := Aside0.mk (blk_below (g := gb533) (o := .cells #[.int .i64 a2_0, .int .i64 a2_1] 25 (0, 0)) (by (with_reducible repeat (first | refine blk_drewN ?_ _ | refine blk_drew ?_ | refine blk_alloc ?_ _)); exact BK533.out) hb); have n3_ := Aside0.mk (below_step (by repeat (first | (with_reducible first | exact HB.out | apply below_alloc | apply pw_below_drewN | apply below_drew1 | refine below_set ?_ GE531.out | refine below_set ?_ GE532.out | refine below_set ?_ GE533.out) | exact HB.out)) hb); clear BK531; clear BK532; clear BK533; clear HB; have BK531 := n0_; have BK532 := n1_; have BK533 := n2_; have HB := n3_; clear n0_ n1_ n2_ n3_; (try clear hb); (try clear hb2); (try clear hk); (try clear hi)))
      go_meet
      case rel => exact ⟨_, (true), (by first | rfl | (simp; done) | (simp [*]; done)), H', ⟨by first | omega | exact Nat.le_refl _⟩, ⟨by (with_reducible repeat (first | refine blk_drewN ?_ _ | refine blk_drew ?_ | refine blk_alloc ?_ _)); exact BK531.out⟩, ⟨by (with_reducible repeat (first | refine blk_drewN ?_ _ | refine blk_drew ?_ | refine blk_alloc ?_ _)); exact BK532.out⟩, ⟨by (with_reducible repeat (first | refine blk_drewN ?_ _ | refine blk_drew ?_ | refine blk_alloc ?_ _)); exact BK533.out⟩, ⟨by repeat (first | (with_reducible first | exact HB.out | apply below_alloc | apply pw_below_drewN | apply below_drew1 | refine below_set ?_ GE531.out | refine below_set ?_ GE532.out | refine below_set ?_ GE533.out) | exact HB.out)⟩⟩
  case rest =>
    clear HC4
    try clear c1
    try clear c2
    try clear p2
    try clear c3
    try clear c7
    try clear c9
    try clear c11
    try clear c13
    try clear c14
    try clear c17
    try clear c24
    try clear c25
    try clear c27
    try clear c28
    try clear c31
    try clear c32
    try clear hcz15_0
    try clear hcz15_1
    try clear hcz15_2
    try clear hcz15_3
    try clear hcz15_4
    try clear hcz15_5
    try clear hcz18_0
    try clear hcz18_1
    try clear hcz18_2
    try clear hcz18_3
    try clear hcz18_4
    try clear hcz18_5
    try clear hcz20_0
    try clear hcz20_1
    try clear hcz26_0
    try clear hcz26_1
    try clear hcz26_2
    try clear hcz26_3
    try clear hcz26_4
    try clear hcz26_5
    try clear hcz29_0
    try clear hcz29_1
    try clear hcz29_2
    try clear hcz29_3
    try clear hcz29_4
    try clear hcz29_5
    try clear hcz33_0
    try clear hcz33_1
    try clear hcz33_2
    try clear hcz33_3
    try clear hcz33_4
    try clear hcz33_5
    try clear hfz15_0
    try clear hfz15_1
    try clear hfz15_2
    try clear hfz15_3
    try clear hfz15_4
    try clear hfz15_5
    try clear hfz18_0
    try clear hfz18_1
    try clear hfz18_2
    try clear hfz18_3
    try clear hfz18_4
    try clear hfz18_5
    try clear hfz20_0
    try clear hfz20_1
    try clear hfz26_0
    try clear hfz26_1
    try clear hfz26_2
    try clear hfz26_3
    try clear hfz26_4
    try clear hfz26_5
    try clear hfz29_0
    try clear hfz29_1
    try clear hfz29_2
    try clear hfz29_3
    try clear hfz29_4
    try clear hfz29_5
    try clear hfz33_0
    try clear hfz33_1
    try clear hfz33_2
    try clear hfz33_3
    try clear hfz33_4
    try clear hfz33_5
    obtain ⟨kq, x25_3, rfl, HA, HJ3, BK531, BK532, BK533, HB⟩ := hcut
    cases kq with
    | zero => exact absurd HA.out (by simp [imageeditorlaw12_AffineComposes.j0])
    | succ kj3 =>
      have H := HA.out
      clear HA
      simp only [imageeditorlaw12_AffineComposes.j0] at H
      by_cases c35 : x25_3 = true
      · subst c35
        have H1 : ((imageeditorlaw12_awake.f kj3).bind fun t540 => (some t540)) = some r := by rw [if_pos rfl] at H; exact H
        clear H
        have H := H1
        clear H1
        replace H := Option.bind_eq_some_iff.mp H
        obtain ⟨t540, A360, H⟩ := H
        replace H : (some t540) = some r := H
        have A36 := Aside0.mk A360
        clear A360
        obtain rfl := Option.some.inj H
        go_wp2_with (first | ((with_reducible refine gate_callee (f := 14) rfl ?_); refine goesL_ (some 26) rfl rfl Try.func14 (by kernel_rfl) rfl #[] rfl (by (try simp only [List.map_toArray, List.map_cons, List.map_nil]); first | done | rfl | (simp only [List.length_drop, List.length_take]; rfl)) ?_; (with_reducible refine (imageeditorlaw12_awake.calls kj3  t540 _ A36.out).mono ?_); rintro e w37 ⟨rfl, hb⟩; refine ⟨_, rfl, ?_⟩; have n0_ := Aside0.mk (blk_below (g := gb531) (o := .cells #[.int .i64 a0_0, .int .i64 a0_1, .int .i64 a0_2, .int .i64 a0_3, .int .i64 a0_4, .int .i64 a0_5] 23 (0, 0)) (by (with_reducible repeat (first | refine blk_drewN ?_ _ | refine blk_drew ?_ | refine blk_alloc ?_ _)); exact BK531.out) hb); have n1_ := Aside0.mk (blk_below (g := gb532) (o := .cells #[.int .i64 a1_0, .int .i64 a1_1, .int .i64 a1_2, .int .i64 a1_3, .int .i64 a1_4, .int .i64 a1_5] 23 (0, 0)) (by (with_reducible repeat (first | refine blk_drewN ?_ _ | refine blk_drew ?_ | refine blk_alloc ?_ _)); exact BK532.out) hb); have n2_ := Aside0.mk (blk_below (g := gb533) (o := .cells #[.int .i64 a2_0, .int .i64 a2_1] 25 (0, 0)) (by (with_reducible repeat (first | refine blk_drewN ?_ _ | refine blk_drew ?_ | refine blk_alloc ?_ _)); exact BK533.out) hb); have n3_ := Aside0.mk (below_step (by repeat (first | (with_reducible first | exact HB.out | apply below_alloc | apply pw_below_drewN | apply below_drew1 | refine below_set ?_ GE531.out | refine below_set ?_ GE532.out | refine below_set ?_ GE533.out) | exact HB.out)) hb); clear BK531; clear BK532; clear BK533; clear HB; have BK531 := n0_; have BK532 := n1_; have BK533 := n2_; have HB := n3_; clear n0_ n1_ n2_ n3_; (try clear hb); (try clear hb2); (try clear hk); (try clear hi)))
        go_ret
        exact ⟨by first | rfl | (simp [errW_none, errW_some] <;> rfl) | (simp [*, errW_none, errW_some] <;> rfl), by repeat (first | (with_reducible first | exact HB.out | apply below_alloc | apply pw_below_drewN | apply below_drew1 | refine below_set ?_ GE531.out | refine below_set ?_ GE532.out | refine below_set ?_ GE533.out) | exact HB.out)⟩
      · replace c35 := Bool.eq_false_iff.mpr c35
        subst c35
        have H1 : ((affine_Then.f kj3 a0_0 a0_1 a0_2 a0_3 a0_4 a0_5 a1_0 a1_1 a1_2 a1_3 a1_4 a1_5).bind fun bt541 => ((affine_Apply.f kj3 bt541.1 bt541.2.1 bt541.2.2.1 bt541.2.2.2.1 bt541.2.2.2.2.1 bt541.2.2.2.2.2 a2_0 a2_1).bind fun bt547 => ((affine_Apply.f kj3 a0_0 a0_1 a0_2 a0_3 a0_4 a0_5 a2_0 a2_1).bind fun bt549 => ((affine_Apply.f kj3 a1_0 a1_1 a1_2 a1_3 a1_4 a1_5 bt549.1 bt549.2).bind fun bt551 => ((imageeditorlaw12_within.f kj3 1099511627776 (([bt547.1, bt547.2, bt551.1, bt551.2] : List Int))).bind fun t558 => (if t558 = true then ((imageeditorlaw12_within.f kj3 262 (([wrap64 (bt547.1 - bt551.1), wrap64 (bt547.2 - bt551.2)] : List Int))).bind fun t562 => (if t562 = true then ((imageeditorlaw12_awake.f kj3).bind fun t563 => (some t563)) else (none))) else (none))))))) = some r := by rw [if_neg (show ¬ (false = true) by decide)] at H; exact H
        clear H
        have H := H1
        clear H1
        replace H := Option.bind_eq_some_iff.mp H
        obtain ⟨⟨t541, t542, t543, t544, t545, t546⟩, A380, H⟩ := H
        replace H : ((affine_Apply.f kj3 t541 t542 t543 t544 t545 t546 a2_0 a2_1).bind fun bt547 => ((affine_Apply.f kj3 a0_0 a0_1 a0_2 a0_3 a0_4 a0_5 a2_0 a2_1).bind fun bt549 => ((affine_Apply.f kj3 a1_0 a1_1 a1_2 a1_3 a1_4 a1_5 bt549.1 bt549.2).bind fun bt551 => ((imageeditorlaw12_within.f kj3 1099511627776 (([bt547.1, bt547.2, bt551.1, bt551.2] : List Int))).bind fun t558 => (if t558 = true then ((imageeditorlaw12_within.f kj3 262 (([wrap64 (bt547.1 - bt551.1), wrap64 (bt547.2 - bt551.2)] : List Int))).bind fun t562 => (if t562 = true then ((imageeditorlaw12_awake.f kj3).bind fun t563 => (some t563)) else (none))) else (none)))))) = some r := H
        have A38 := Aside0.mk A380
        clear A380
        replace H := Option.bind_eq_some_iff.mp H
        obtain ⟨⟨t547, t548⟩, A390, H⟩ := H
        replace H : ((affine_Apply.f kj3 a0_0 a0_1 a0_2 a0_3 a0_4 a0_5 a2_0 a2_1).bind fun bt549 => ((affine_Apply.f kj3 a1_0 a1_1 a1_2 a1_3 a1_4 a1_5 bt549.1 bt549.2).bind fun bt551 => ((imageeditorlaw12_within.f kj3 1099511627776 (([t547, t548, bt551.1, bt551.2] : List Int))).bind fun t558 => (if t558 = true then ((imageeditorlaw12_within.f kj3 262 (([wrap64 (t547 - bt551.1), wrap64 (t548 - bt551.2)] : List Int))).bind fun t562 => (if t562 = true then ((imageeditorlaw12_awake.f kj3).bind fun t563 => (some t563)) else (none))) else (none))))) = some r := H
        have A39 := Aside0.mk A390
        clear A390
        replace H := Option.bind_eq_some_iff.mp H
        obtain ⟨⟨t549, t550⟩, A400, H⟩ := H
        replace H : ((affine_Apply.f kj3 a1_0 a1_1 a1_2 a1_3 a1_4 a1_5 t549 t550).bind fun bt551 => ((imageeditorlaw12_within.f kj3 1099511627776 (([t547, t548, bt551.1, bt551.2] : List Int))).bind fun t558 => (if t558 = true then ((imageeditorlaw12_within.f kj3 262 (([wrap64 (t547 - bt551.1), wrap64 (t548 - bt551.2)] : List Int))).bind fun t562 => (if t562 = true then ((imageeditorlaw12_awake.f kj3).bind fun t563 => (some t563)) else (none))) else (none)))) = some r := H
        have A40 := Aside0.mk A400
        clear A400
        replace H := Option.bind_eq_some_iff.mp H
        obtain ⟨⟨t551, t552⟩, A410, H⟩ := H
        replace H : ((imageeditorlaw12_within.f kj3 1099511627776 (([t547, t548, t551, t552] : List Int))).bind fun t558 => (if t558 = true then ((imageeditorlaw12_within.f kj3 262 (([wrap64 (t547 - t551), wrap64 (t548 - t552)] : List Int))).bind fun t562 => (if t562 = true then ((imageeditorlaw12_awake.f kj3).bind fun t563 => (some t563)) else (none))) else (none))) = some r := H
        have A41 := Aside0.mk A410
        clear A410
        obtain ⟨y555, hy555⟩ : ∃ y_ : List Int, y_ = (([t547, t548, t551, t552] : List Int)) := ⟨_, rfl⟩
        replace H : ((imageeditorlaw12_within.f kj3 1099511627776 y555).bind fun t558 => (if t558 = true then ((imageeditorlaw12_within.f kj3 262 (([wrap64 (t547 - t551), wrap64 (t548 - t552)] : List Int))).bind fun t562 => (if t562 = true then ((imageeditorlaw12_awake.f kj3).bind fun t563 => (some t563)) else (none))) else (none))) = some r := by first | (rw [hy555]; with_reducible exact H) | (have H2_ := (Option.bind_some _ _).symm.trans H; rw [hy555]; with_reducible exact H2_) | (have H2_ := (Option.bind_some _ _).symm.trans H; with_reducible exact H2_) | with_reducible exact H | (rw [hy555]; exact H) | exact H
        have Ny555 := Aside0.mk hy555
        clear hy555
        replace H := Option.bind_eq_some_iff.mp H
        obtain ⟨t558, A420, H⟩ := H
        replace H : (if t558 = true then ((imageeditorlaw12_within.f kj3 262 (([wrap64 (t547 - t551), wrap64 (t548 - t552)] : List Int))).bind fun t562 => (if t562 = true then ((imageeditorlaw12_awake.f kj3).bind fun t563 => (some t563)) else (none))) else (none)) = some r := H
        have A42 := Aside0.mk A420
        clear A420
        by_cases c43 : t558 = true
        · subst c43
          have H1 : ((imageeditorlaw12_within.f kj3 262 (([wrap64 (t547 - t551), wrap64 (t548 - t552)] : List Int))).bind fun t562 => (if t562 = true then ((imageeditorlaw12_awake.f kj3).bind fun t563 => (some t563)) else (none))) = some r := by rw [if_pos rfl] at H; exact H
          clear H
          have H := H1
          clear H1
          obtain ⟨y559, hy559⟩ : ∃ y_ : List Int, y_ = (([wrap64 (t547 - t551), wrap64 (t548 - t552)] : List Int)) := ⟨_, rfl⟩
          replace H : ((imageeditorlaw12_within.f kj3 262 y559).bind fun t562 => (if t562 = true then ((imageeditorlaw12_awake.f kj3).bind fun t563 => (some t563)) else (none))) = some r := by first | (rw [hy559]; with_reducible exact H) | (have H2_ := (Option.bind_some _ _).symm.trans H; rw [hy559]; with_reducible exact H2_) | (have H2_ := (Option.bind_some _ _).symm.trans H; with_reducible exact H2_) | with_reducible exact H | (rw [hy559]; exact H) | exact H
          have Ny559 := Aside0.mk hy559
          clear hy559
          replace H := Option.bind_eq_some_iff.mp H
          obtain ⟨t562, A440, H⟩ := H
          replace H : (if t562 = true then ((imageeditorlaw12_awake.f kj3).bind fun t563 => (some t563)) else (none)) = some r := H
          have A44 := Aside0.mk A440
          clear A440
          by_cases c45 : t562 = true
          · subst c45
            have H1 : ((imageeditorlaw12_awake.f kj3).bind fun t563 => (some t563)) = some r := by rw [if_pos rfl] at H; exact H
            clear H
            have H := H1
            clear H1
            replace H := Option.bind_eq_some_iff.mp H
            obtain ⟨t563, A460, H⟩ := H
            replace H : (some t563) = some r := H
            have A46 := Aside0.mk A460
            clear A460
            obtain rfl := Option.some.inj H
            try go_wp2
            have n0_ := Aside0.mk (blk_drew BK531.out)
            have n1_ := Aside0.mk (blk_drew BK532.out)
            have n2_ := Aside0.mk (blk_drew BK533.out)
            have n3_ := Aside0.mk (below_drew1 HB.out)
            clear BK531
            clear BK532
            clear BK533
            clear HB
            have BK531 := n0_
            have BK532 := n1_
            have BK533 := n2_
            have HB := n3_
            clear n0_ n1_ n2_ n3_
            refine start_ (n := 14) (S := fun w' => True) (ds := []) #[false, false, false, false, false, false, false, false, false, false, false, false, false, false] (by kernel_rfl) rfl rfl trivial (fun hHeld => ?_); refine with_tabW imageeditorlaw12_AffineComposes.tab3 imageeditorlaw12_AffineComposes.bits3 (fun HT_ HW_ => ?_)
            generalize wc.drew = w47 at BK531 BK532 BK533 HB hHeld ⊢
            refine inv_at [0, 1, 2, 3, 4, 5, 6, 7, 8, 9, 10, 11, 12, 13] (fun a0_ b a w' => ∃ (gb553 : Nat) (gb554 : Nat) (m10_ : Value) (m11_ : Value), a = putSel a0_ b [(0, 27, .agg #[.int .i64 a0_0, .int .i64 a0_1, .int .i64 a0_2, .int .i64 a0_3, .int .i64 a0_4, .int .i64 a0_5]), (1, 28, .agg #[.int .i64 a1_0, .int .i64 a1_1, .int .i64 a1_2, .int .i64 a1_3, .int .i64 a1_4, .int .i64 a1_5]), (2, 29, .agg #[.int .i64 t541, .int .i64 t542, .int .i64 t543, .int .i64 t544, .int .i64 t545, .int .i64 t546]), (3, 30, .agg #[.int .i64 a2_0, .int .i64 a2_1]), (4, 31, .agg #[.int .i64 t547, .int .i64 t548]), (5, 32, .agg #[.int .i64 a1_0, .int .i64 a1_1, .int .i64 a1_2, .int .i64 a1_3, .int .i64 a1_4, .int .i64 a1_5]), (6, 33, .agg #[.int .i64 a0_0, .int .i64 a0_1, .int .i64 a0_2, .int .i64 a0_3, .int .i64 a0_4, .int .i64 a0_5]), (7, 34, .agg #[.int .i64 a2_0, .int .i64 a2_1]), (8, 35, .agg #[.int .i64 t549, .int .i64 t550]), (9, 36, .agg #[.int .i64 t551, .int .i64 t552]), (10, 7, m10_), (11, 8, m11_)] ∧ (w'.heap[gb531]? = some (.cells #[.int .i64 a0_0, .int .i64 a0_1, .int .i64 a0_2, .int .i64 a0_3, .int .i64 a0_4, .int .i64 a0_5] 23 (0, 0))) ∧ (w'.heap[gb532]? = some (.cells #[.int .i64 a1_0, .int .i64 a1_1, .int .i64 a1_2, .int .i64 a1_3, .int .i64 a1_4, .int .i64 a1_5] 23 (0, 0))) ∧ (w'.heap[gb533]? = some (.cells #[.int .i64 a2_0, .int .i64 a2_1] 25 (0, 0))) ∧ (Below w.heap.size w w') ∧ (b 10 = true → b 11 = true → gb554 ≠ gb553) ∧ (b 10 = true → b 11 = true → gb553 ≠ gb554) ∧ (b 10 = true → b 12 = false → w'.heap[gb553]? = some (.cells #[.int .i64 0, .int .i64 0] 25 (0, 0))) ∧ (b 10 = true → w.heap.size ≤ gb553) ∧ (b 10 = true → w.heap.size ≤ gb553) ∧ (b 10 = true → gb531 ≠ gb553) ∧ (b 10 = true → gb553 ≠ gb531) ∧ (b 10 = true → gb532 ≠ gb553) ∧ (b 10 = true → gb553 ≠ gb532) ∧ (b 10 = true → gb533 ≠ gb553) ∧ (b 10 = true → gb553 ≠ gb533) ∧ (b 11 = true → b 13 = false → w'.heap[gb554]? = some (.cells #[.int .i64 0, .int .i64 0] 25 (0, 0))) ∧ (b 11 = true → w.heap.size ≤ gb554) ∧ (b 11 = true → w.heap.size ≤ gb554) ∧ (b 11 = true → gb531 ≠ gb554) ∧ (b 11 = true → gb554 ≠ gb531) ∧ (b 11 = true → gb532 ≠ gb554) ∧ (b 11 = true → gb554 ≠ gb532) ∧ (b 11 = true → gb533 ≠ gb554) ∧ (b 11 = true → gb554 ≠ gb533) ∧ (b 12 = true → w'.heap[gb553]? = some (.cells #[.int .i64 t547, .int .i64 t548] 25 (0, 0))) ∧ (b 13 = true → w'.heap[gb554]? = some (.cells #[.int .i64 t551, .int .i64 t552] 25 (0, 0))) ∧ (b 10 = true → (m10_ : Value) = .pointer (some ⟨gb553, 0, none⟩)) ∧ (b 11 = true → (m11_ : Value) = .pointer (some ⟨gb554, 0, none⟩))) HT_.out HW_.out (by kernel_rfl) (by kernel_rfl) ?_ ?_ ?_
            · exact ⟨0, 0, .bool false, .bool false, by simp only [putSel, Bool.false_eq_true, if_false], BK531.out, BK532.out, BK533.out, HB.out, fun h_ => absurd h_ (by decide), fun h_ => absurd h_ (by decide), fun h_ => absurd h_ (by decide), fun h_ => absurd h_ (by decide), fun h_ => absurd h_ (by decide), fun h_ => absurd h_ (by decide), fun h_ => absurd h_ (by decide), fun h_ => absurd h_ (by decide), fun h_ => absurd h_ (by decide), fun h_ => absurd h_ (by decide), fun h_ => absurd h_ (by decide), fun h_ => absurd h_ (by decide), fun h_ => absurd h_ (by decide), fun h_ => absurd h_ (by decide), fun h_ => absurd h_ (by decide), fun h_ => absurd h_ (by decide), fun h_ => absurd h_ (by decide), fun h_ => absurd h_ (by decide), fun h_ => absurd h_ (by decide), fun h_ => absurd h_ (by decide), fun h_ => absurd h_ (by decide), fun h_ => absurd h_ (by decide), fun h_ => absurd h_ (by decide), fun h_ => absurd h_ (by decide)⟩
            · skip
              clear BK531 BK532 BK533 HB
              refine steps_cons ?_ ?_
              · rintro b a w' ⟨gb553, gb554, m10_, m11_, ha, Q_BK531, Q_BK532, Q_BK533, Q_HB, Q_NB554_553, Q_NB553_554, Q_BK553, Q_GW553, Q_GE553, Q_NB531_553, Q_NB553_531, Q_NB532_553, Q_NB553_532, Q_NB533_553, Q_NB553_533, Q_BK554, Q_GW554, Q_GE554, Q_NB531_554, Q_NB554_531, Q_NB532_554, Q_NB554_532, Q_NB533_554, Q_NB554_533, Q_BK553_e12, Q_BK554_e13, Q_X10_, Q_X11_⟩ hb_ hon hoff
                refine ⟨_, rfl, fun K hK => ?_⟩
                have e3 : a.tmps[3]? = some (.pointer (some ⟨gb531, 0, none⟩)) := by rw [ha]; exact (putSel_off rfl).trans rfl
                replace ha := Aside0.mk ha
                have BK531 := Aside0.mk Q_BK531
                have BK532 := Aside0.mk Q_BK532
                have BK533 := Aside0.mk Q_BK533
                have HB := Aside0.mk Q_HB
                have hc0_ : w'.cell? ⟨gb531, 0, none⟩ = some (.int .i64 a0_0) := (blk_cell BK531.out 0).trans rfl
                have hc1_ : w'.cell? ⟨gb531, 1, none⟩ = some (.int .i64 a0_1) := (blk_cell BK531.out 1).trans rfl
                have hc2_ : w'.cell? ⟨gb531, 2, none⟩ = some (.int .i64 a0_2) := (blk_cell BK531.out 2).trans rfl
                have hc3_ : w'.cell? ⟨gb531, 3, none⟩ = some (.int .i64 a0_3) := (blk_cell BK531.out 3).trans rfl
                have hc4_ : w'.cell? ⟨gb531, 4, none⟩ = some (.int .i64 a0_4) := (blk_cell BK531.out 4).trans rfl
                have hc5_ : w'.cell? ⟨gb531, 5, none⟩ = some (.int .i64 a0_5) := (blk_cell BK531.out 5).trans rfl
                refine value_ (w1 := w') (v := .agg #[.int .i64 a0_0, .int .i64 a0_1, .int .i64 a0_2, .int .i64 a0_3, .int .i64 a0_4, .int .i64 a0_5]) (by rfl) rfl ?_ ?_
                · go_simp
                  (try simp only [i64_w])
                  try rfl
                refine hK.out _ _ ⟨gb553, gb554, m10_, m11_, (by rw [ha.out]; exact putSel_upk 0 hb_ rfl rfl rfl), Q_BK531, Q_BK532, Q_BK533, Q_HB, Q_NB554_553, Q_NB553_554, Q_BK553, Q_GW553, Q_GE553, Q_NB531_553, Q_NB553_531, Q_NB532_553, Q_NB553_532, Q_NB533_553, Q_NB553_533, Q_BK554, Q_GW554, Q_GE554, Q_NB531_554, Q_NB554_531, Q_NB532_554, Q_NB554_532, Q_NB533_554, Q_NB554_533, fun h0_ => absurd ((hoff 12 (by kernel_rfl)).symm.trans h0_) (by decide), fun h0_ => absurd ((hoff 13 (by kernel_rfl)).symm.trans h0_) (by decide), Q_X10_, Q_X11_⟩
              refine steps_cons ?_ ?_
              · rintro b a w' ⟨gb553, gb554, m10_, m11_, ha, Q_BK531, Q_BK532, Q_BK533, Q_HB, Q_NB554_553, Q_NB553_554, Q_BK553, Q_GW553, Q_GE553, Q_NB531_553, Q_NB553_531, Q_NB532_553, Q_NB553_532, Q_NB533_553, Q_NB553_533, Q_BK554, Q_GW554, Q_GE554, Q_NB531_554, Q_NB554_531, Q_NB532_554, Q_NB554_532, Q_NB533_554, Q_NB554_533, Q_BK553_e12, Q_BK554_e13, Q_X10_, Q_X11_⟩ hb_ hon hoff
                refine ⟨_, rfl, fun K hK => ?_⟩
                have e4 : a.tmps[4]? = some (.pointer (some ⟨gb532, 0, none⟩)) := by rw [ha]; exact (putSel_off rfl).trans rfl
                replace ha := Aside0.mk ha
                have BK531 := Aside0.mk Q_BK531
                have BK532 := Aside0.mk Q_BK532
                have BK533 := Aside0.mk Q_BK533
                have HB := Aside0.mk Q_HB
                have hc0_ : w'.cell? ⟨gb532, 0, none⟩ = some (.int .i64 a1_0) := (blk_cell BK532.out 0).trans rfl
                have hc1_ : w'.cell? ⟨gb532, 1, none⟩ = some (.int .i64 a1_1) := (blk_cell BK532.out 1).trans rfl
                have hc2_ : w'.cell? ⟨gb532, 2, none⟩ = some (.int .i64 a1_2) := (blk_cell BK532.out 2).trans rfl
                have hc3_ : w'.cell? ⟨gb532, 3, none⟩ = some (.int .i64 a1_3) := (blk_cell BK532.out 3).trans rfl
                have hc4_ : w'.cell? ⟨gb532, 4, none⟩ = some (.int .i64 a1_4) := (blk_cell BK532.out 4).trans rfl
                have hc5_ : w'.cell? ⟨gb532, 5, none⟩ = some (.int .i64 a1_5) := (blk_cell BK532.out 5).trans rfl
                refine value_ (w1 := w') (v := .agg #[.int .i64 a1_0, .int .i64 a1_1, .int .i64 a1_2, .int .i64 a1_3, .int .i64 a1_4, .int .i64 a1_5]) (by rfl) rfl ?_ ?_
                · go_simp
                  (try simp only [i64_w])
                  try rfl
                refine hK.out _ _ ⟨gb553, gb554, m10_, m11_, (by rw [ha.out]; exact putSel_upk 1 hb_ rfl rfl rfl), Q_BK531, Q_BK532, Q_BK533, Q_HB, Q_NB554_553, Q_NB553_554, Q_BK553, Q_GW553, Q_GE553, Q_NB531_553, Q_NB553_531, Q_NB532_553, Q_NB553_532, Q_NB533_553, Q_NB553_533, Q_BK554, Q_GW554, Q_GE554, Q_NB531_554, Q_NB554_531, Q_NB532_554, Q_NB554_532, Q_NB533_554, Q_NB554_533, fun h0_ => absurd ((hoff 12 (by kernel_rfl)).symm.trans h0_) (by decide), fun h0_ => absurd ((hoff 13 (by kernel_rfl)).symm.trans h0_) (by decide), Q_X10_, Q_X11_⟩
              refine steps_cons ?_ ?_
              · rintro b a w' ⟨gb553, gb554, m10_, m11_, ha, Q_BK531, Q_BK532, Q_BK533, Q_HB, Q_NB554_553, Q_NB553_554, Q_BK553, Q_GW553, Q_GE553, Q_NB531_553, Q_NB553_531, Q_NB532_553, Q_NB553_532, Q_NB533_553, Q_NB553_533, Q_BK554, Q_GW554, Q_GE554, Q_NB531_554, Q_NB554_531, Q_NB532_554, Q_NB554_532, Q_NB533_554, Q_NB554_533, Q_BK553_e12, Q_BK554_e13, Q_X10_, Q_X11_⟩ hb_ hon hoff
                refine ⟨_, rfl, fun K hK => ?_⟩
                have e27 : a.tmps[27]? = some (.agg #[.int .i64 a0_0, .int .i64 a0_1, .int .i64 a0_2, .int .i64 a0_3, .int .i64 a0_4, .int .i64 a0_5]) := by rw [ha]; exact putSel_on (e := (0, 27, .agg #[.int .i64 a0_0, .int .i64 a0_1, .int .i64 a0_2, .int .i64 a0_3, .int .i64 a0_4, .int .i64 a0_5])) 0 rfl rfl (hon 0 (by kernel_rfl)) rfl
                have e28 : a.tmps[28]? = some (.agg #[.int .i64 a1_0, .int .i64 a1_1, .int .i64 a1_2, .int .i64 a1_3, .int .i64 a1_4, .int .i64 a1_5]) := by rw [ha]; exact putSel_on (e := (1, 28, .agg #[.int .i64 a1_0, .int .i64 a1_1, .int .i64 a1_2, .int .i64 a1_3, .int .i64 a1_4, .int .i64 a1_5])) 1 rfl rfl (hon 1 (by kernel_rfl)) rfl
                replace ha := Aside0.mk ha
                have BK531 := Aside0.mk Q_BK531
                have BK532 := Aside0.mk Q_BK532
                have BK533 := Aside0.mk Q_BK533
                have HB := Aside0.mk Q_HB
                refine goes_ Try.func23 (by kernel_rfl) rfl #[.agg #[.int .i64 a0_0, .int .i64 a0_1, .int .i64 a0_2, .int .i64 a0_3, .int .i64 a0_4, .int .i64 a0_5], .agg #[.int .i64 a1_0, .int .i64 a1_1, .int .i64 a1_2, .int .i64 a1_3, .int .i64 a1_4, .int .i64 a1_5]] (by rfl) rfl rfl (by first | (simp only [List.map_toArray, List.map_cons, List.map_nil, Act.eval, Array.getD_eq_getD_getElem?, Option.getD_some, e27, e28]; done) | (simp only [List.map_toArray, List.map_cons, List.map_nil, Act.eval, Array.getD_eq_getD_getElem?, Option.getD_some, e27, e28]; rfl)) ?_
                with_reducible refine (affine_Then.calls kj3 a0_0 a0_1 a0_2 a0_3 a0_4 a0_5 a1_0 a1_1 a1_2 a1_3 a1_4 a1_5 t541 t542 t543 t544 t545 t546 _ A38.out).mono ?_
                rintro e w48 ⟨rfl, hb⟩
                refine ⟨_, rfl, ?_⟩
                have n0_ := Aside0.mk (blk_below (g := gb531) (o := .cells #[.int .i64 a0_0, .int .i64 a0_1, .int .i64 a0_2, .int .i64 a0_3, .int .i64 a0_4, .int .i64 a0_5] 23 (0, 0)) (by (with_reducible repeat (first | refine blk_drewN ?_ _ | refine blk_drew ?_ | refine blk_alloc ?_ _)); exact BK531.out) hb)
                have n1_ := Aside0.mk (blk_below (g := gb532) (o := .cells #[.int .i64 a1_0, .int .i64 a1_1, .int .i64 a1_2, .int .i64 a1_3, .int .i64 a1_4, .int .i64 a1_5] 23 (0, 0)) (by (with_reducible repeat (first | refine blk_drewN ?_ _ | refine blk_drew ?_ | refine blk_alloc ?_ _)); exact BK532.out) hb)
                have n2_ := Aside0.mk (blk_below (g := gb533) (o := .cells #[.int .i64 a2_0, .int .i64 a2_1] 25 (0, 0)) (by (with_reducible repeat (first | refine blk_drewN ?_ _ | refine blk_drew ?_ | refine blk_alloc ?_ _)); exact BK533.out) hb)
                have n3_ := Aside0.mk (below_step (by repeat (first | (with_reducible first | exact HB.out | apply below_alloc | apply pw_below_drewN | apply below_drew1 | refine below_set ?_ GE531.out | refine below_set ?_ GE532.out | refine below_set ?_ GE533.out) | exact HB.out)) hb)
                have z_BK553 := fun (h0_ : b 10 = true) (h1_ : b 12 = false) => (show w48.heap[gb553]? = some (.cells #[.int .i64 0, .int .i64 0] 25 (0, 0)) from by first | exact (blk_below (g := gb553) (o := .cells #[.int .i64 0, .int .i64 0] 25 (0, 0)) (by (with_reducible repeat (first | refine blk_drewN ?_ _ | refine blk_drew ?_ | refine blk_alloc ?_ _)); exact (Q_BK553 h0_ h1_)) hb))
                have z_BK554 := fun (h0_ : b 11 = true) (h1_ : b 13 = false) => (show w48.heap[gb554]? = some (.cells #[.int .i64 0, .int .i64 0] 25 (0, 0)) from by first | exact (blk_below (g := gb554) (o := .cells #[.int .i64 0, .int .i64 0] 25 (0, 0)) (by (with_reducible repeat (first | refine blk_drewN ?_ _ | refine blk_drew ?_ | refine blk_alloc ?_ _)); exact (Q_BK554 h0_ h1_)) hb))
                clear BK531
                clear BK532
                clear BK533
                clear HB
                have BK531 := n0_
                have BK532 := n1_
                have BK533 := n2_
                have HB := n3_
                clear n0_ n1_ n2_ n3_
                (try clear hb)
                (try clear hb2)
                (try clear hk)
                (try clear hi)
                refine hK.out _ _ ⟨gb553, gb554, m10_, m11_, (by rw [ha.out]; exact putSel_upk 2 hb_ rfl rfl rfl), (by (with_reducible repeat (first | refine blk_drewN ?_ _ | refine blk_drew ?_ | refine blk_alloc ?_ _)); exact BK531.out), (by (with_reducible repeat (first | refine blk_drewN ?_ _ | refine blk_drew ?_ | refine blk_alloc ?_ _)); exact BK532.out), (by (with_reducible repeat (first | refine blk_drewN ?_ _ | refine blk_drew ?_ | refine blk_alloc ?_ _)); exact BK533.out), (by repeat (first | (with_reducible first | exact HB.out | apply below_alloc | apply pw_below_drewN | apply below_drew1 | refine below_set ?_ GE531.out | refine below_set ?_ GE532.out | refine below_set ?_ GE533.out) | exact HB.out)), Q_NB554_553, Q_NB553_554, z_BK553, Q_GW553, Q_GE553, Q_NB531_553, Q_NB553_531, Q_NB532_553, Q_NB553_532, Q_NB533_553, Q_NB553_533, z_BK554, Q_GW554, Q_GE554, Q_NB531_554, Q_NB554_531, Q_NB532_554, Q_NB554_532, Q_NB533_554, Q_NB554_533, fun h0_ => absurd ((hoff 12 (by kernel_rfl)).symm.trans h0_) (by decide), fun h0_ => absurd ((hoff 13 (by kernel_rfl)).symm.trans h0_) (by decide), Q_X10_, Q_X11_⟩
              refine steps_cons ?_ ?_
              · rintro b a w' ⟨gb553, gb554, m10_, m11_, ha, Q_BK531, Q_BK532, Q_BK533, Q_HB, Q_NB554_553, Q_NB553_554, Q_BK553, Q_GW553, Q_GE553, Q_NB531_553, Q_NB553_531, Q_NB532_553, Q_NB553_532, Q_NB533_553, Q_NB553_533, Q_BK554, Q_GW554, Q_GE554, Q_NB531_554, Q_NB554_531, Q_NB532_554, Q_NB554_532, Q_NB533_554, Q_NB554_533, Q_BK553_e12, Q_BK554_e13, Q_X10_, Q_X11_⟩ hb_ hon hoff
                refine ⟨_, rfl, fun K hK => ?_⟩
                have e5 : a.tmps[5]? = some (.pointer (some ⟨gb533, 0, none⟩)) := by rw [ha]; exact (putSel_off rfl).trans rfl
                replace ha := Aside0.mk ha
                have BK531 := Aside0.mk Q_BK531
                have BK532 := Aside0.mk Q_BK532
                have BK533 := Aside0.mk Q_BK533
                have HB := Aside0.mk Q_HB
                have hc0_ : w'.cell? ⟨gb533, 0, none⟩ = some (.int .i64 a2_0) := (blk_cell BK533.out 0).trans rfl
                have hc1_ : w'.cell? ⟨gb533, 1, none⟩ = some (.int .i64 a2_1) := (blk_cell BK533.out 1).trans rfl
                refine value_ (w1 := w') (v := .agg #[.int .i64 a2_0, .int .i64 a2_1]) (by rfl) rfl ?_ ?_
                · go_simp
                  (try simp only [i64_w])
                  try rfl
                refine hK.out _ _ ⟨gb553, gb554, m10_, m11_, (by rw [ha.out]; exact putSel_upk 3 hb_ rfl rfl rfl), Q_BK531, Q_BK532, Q_BK533, Q_HB, Q_NB554_553, Q_NB553_554, Q_BK553, Q_GW553, Q_GE553, Q_NB531_553, Q_NB553_531, Q_NB532_553, Q_NB553_532, Q_NB533_553, Q_NB553_533, Q_BK554, Q_GW554, Q_GE554, Q_NB531_554, Q_NB554_531, Q_NB532_554, Q_NB554_532, Q_NB533_554, Q_NB554_533, fun h0_ => absurd ((hoff 12 (by kernel_rfl)).symm.trans h0_) (by decide), fun h0_ => absurd ((hoff 13 (by kernel_rfl)).symm.trans h0_) (by decide), Q_X10_, Q_X11_⟩
              refine steps_cons ?_ ?_
              · rintro b a w' ⟨gb553, gb554, m10_, m11_, ha, Q_BK531, Q_BK532, Q_BK533, Q_HB, Q_NB554_553, Q_NB553_554, Q_BK553, Q_GW553, Q_GE553, Q_NB531_553, Q_NB553_531, Q_NB532_553, Q_NB553_532, Q_NB533_553, Q_NB553_533, Q_BK554, Q_GW554, Q_GE554, Q_NB531_554, Q_NB554_531, Q_NB532_554, Q_NB554_532, Q_NB533_554, Q_NB554_533, Q_BK553_e12, Q_BK554_e13, Q_X10_, Q_X11_⟩ hb_ hon hoff
                refine ⟨_, rfl, fun K hK => ?_⟩
                have e29 : a.tmps[29]? = some (.agg #[.int .i64 t541, .int .i64 t542, .int .i64 t543, .int .i64 t544, .int .i64 t545, .int .i64 t546]) := by rw [ha]; exact putSel_on (e := (2, 29, .agg #[.int .i64 t541, .int .i64 t542, .int .i64 t543, .int .i64 t544, .int .i64 t545, .int .i64 t546])) 2 rfl rfl (hon 2 (by kernel_rfl)) rfl
                have e30 : a.tmps[30]? = some (.agg #[.int .i64 a2_0, .int .i64 a2_1]) := by rw [ha]; exact putSel_on (e := (3, 30, .agg #[.int .i64 a2_0, .int .i64 a2_1])) 3 rfl rfl (hon 3 (by kernel_rfl)) rfl
                replace ha := Aside0.mk ha
                have BK531 := Aside0.mk Q_BK531
                have BK532 := Aside0.mk Q_BK532
                have BK533 := Aside0.mk Q_BK533
                have HB := Aside0.mk Q_HB
                refine goes_ Try.func12 (by kernel_rfl) rfl #[.agg #[.int .i64 t541, .int .i64 t542, .int .i64 t543, .int .i64 t544, .int .i64 t545, .int .i64 t546], .agg #[.int .i64 a2_0, .int .i64 a2_1]] (by rfl) rfl rfl (by first | (simp only [List.map_toArray, List.map_cons, List.map_nil, Act.eval, Array.getD_eq_getD_getElem?, Option.getD_some, e29, e30]; done) | (simp only [List.map_toArray, List.map_cons, List.map_nil, Act.eval, Array.getD_eq_getD_getElem?, Option.getD_some, e29, e30]; rfl)) ?_
                with_reducible refine (affine_Apply.calls kj3 t541 t542 t543 t544 t545 t546 a2_0 a2_1 t547 t548 _ A39.out).mono ?_
                rintro e w50 ⟨rfl, hb⟩
                refine ⟨_, rfl, ?_⟩
                have n0_ := Aside0.mk (blk_below (g := gb531) (o := .cells #[.int .i64 a0_0, .int .i64 a0_1, .int .i64 a0_2, .int .i64 a0_3, .int .i64 a0_4, .int .i64 a0_5] 23 (0, 0)) (by (with_reducible repeat (first | refine blk_drewN ?_ _ | refine blk_drew ?_ | refine blk_alloc ?_ _)); exact BK531.out) hb)
                have n1_ := Aside0.mk (blk_below (g := gb532) (o := .cells #[.int .i64 a1_0, .int .i64 a1_1, .int .i64 a1_2, .int .i64 a1_3, .int .i64 a1_4, .int .i64 a1_5] 23 (0, 0)) (by (with_reducible repeat (first | refine blk_drewN ?_ _ | refine blk_drew ?_ | refine blk_alloc ?_ _)); exact BK532.out) hb)
                have n2_ := Aside0.mk (blk_below (g := gb533) (o := .cells #[.int .i64 a2_0, .int .i64 a2_1] 25 (0, 0)) (by (with_reducible repeat (first | refine blk_drewN ?_ _ | refine blk_drew ?_ | refine blk_alloc ?_ _)); exact BK533.out) hb)
                have n3_ := Aside0.mk (below_step (by repeat (first | (with_reducible first | exact HB.out | apply below_alloc | apply pw_below_drewN | apply below_drew1 | refine below_set ?_ GE531.out | refine below_set ?_ GE532.out | refine below_set ?_ GE533.out) | exact HB.out)) hb)
                have z_BK553 := fun (h0_ : b 10 = true) (h1_ : b 12 = false) => (show w50.heap[gb553]? = some (.cells #[.int .i64 0, .int .i64 0] 25 (0, 0)) from by first | exact (blk_below (g := gb553) (o := .cells #[.int .i64 0, .int .i64 0] 25 (0, 0)) (by (with_reducible repeat (first | refine blk_drewN ?_ _ | refine blk_drew ?_ | refine blk_alloc ?_ _)); exact (Q_BK553 h0_ h1_)) hb))
                have z_BK554 := fun (h0_ : b 11 = true) (h1_ : b 13 = false) => (show w50.heap[gb554]? = some (.cells #[.int .i64 0, .int .i64 0] 25 (0, 0)) from by first | exact (blk_below (g := gb554) (o := .cells #[.int .i64 0, .int .i64 0] 25 (0, 0)) (by (with_reducible repeat (first | refine blk_drewN ?_ _ | refine blk_drew ?_ | refine blk_alloc ?_ _)); exact (Q_BK554 h0_ h1_)) hb))
                clear BK531
                clear BK532
                clear BK533
                clear HB
                have BK531 := n0_
                have BK532 := n1_
                have BK533 := n2_
                have HB := n3_
                clear n0_ n1_ n2_ n3_
                (try clear hb)
                (try clear hb2)
                (try clear hk)
                (try clear hi)
                refine hK.out _ _ ⟨gb553, gb554, m10_, m11_, (by rw [ha.out]; exact putSel_upk 4 hb_ rfl rfl rfl), (by (with_reducible repeat (first | refine blk_drewN ?_ _ | refine blk_drew ?_ | refine blk_alloc ?_ _)); exact BK531.out), (by (with_reducible repeat (first | refine blk_drewN ?_ _ | refine blk_drew ?_ | refine blk_alloc ?_ _)); exact BK532.out), (by (with_reducible repeat (first | refine blk_drewN ?_ _ | refine blk_drew ?_ | refine blk_alloc ?_ _)); exact BK533.out), (by repeat (first | (with_reducible first | exact HB.out | apply below_alloc | apply pw_below_drewN | apply below_drew1 | refine below_set ?_ GE531.out | refine below_set ?_ GE532.out | refine below_set ?_ GE533.out) | exact HB.out)), Q_NB554_553, Q_NB553_554, z_BK553, Q_GW553, Q_GE553, Q_NB531_553, Q_NB553_531, Q_NB532_553, Q_NB553_532, Q_NB533_553, Q_NB553_533, z_BK554, Q_GW554, Q_GE554, Q_NB531_554, Q_NB554_531, Q_NB532_554, Q_NB554_532, Q_NB533_554, Q_NB554_533, fun h0_ => absurd ((hoff 12 (by kernel_rfl)).symm.trans h0_) (by decide), fun h0_ => absurd ((hoff 13 (by kernel_rfl)).symm.trans h0_) (by decide), Q_X10_, Q_X11_⟩
              refine steps_cons ?_ ?_
              · rintro b a w' ⟨gb553, gb554, m10_, m11_, ha, Q_BK531, Q_BK532, Q_BK533, Q_HB, Q_NB554_553, Q_NB553_554, Q_BK553, Q_GW553, Q_GE553, Q_NB531_553, Q_NB553_531, Q_NB532_553, Q_NB553_532, Q_NB533_553, Q_NB553_533, Q_BK554, Q_GW554, Q_GE554, Q_NB531_554, Q_NB554_531, Q_NB532_554, Q_NB554_532, Q_NB533_554, Q_NB554_533, Q_BK553_e12, Q_BK554_e13, Q_X10_, Q_X11_⟩ hb_ hon hoff
                refine ⟨_, rfl, fun K hK => ?_⟩
                have e4 : a.tmps[4]? = some (.pointer (some ⟨gb532, 0, none⟩)) := by rw [ha]; exact (putSel_off rfl).trans rfl
                replace ha := Aside0.mk ha
                have BK531 := Aside0.mk Q_BK531
                have BK532 := Aside0.mk Q_BK532
                have BK533 := Aside0.mk Q_BK533
                have HB := Aside0.mk Q_HB
                have hc0_ : w'.cell? ⟨gb532, 0, none⟩ = some (.int .i64 a1_0) := (blk_cell BK532.out 0).trans rfl
                have hc1_ : w'.cell? ⟨gb532, 1, none⟩ = some (.int .i64 a1_1) := (blk_cell BK532.out 1).trans rfl
                have hc2_ : w'.cell? ⟨gb532, 2, none⟩ = some (.int .i64 a1_2) := (blk_cell BK532.out 2).trans rfl
                have hc3_ : w'.cell? ⟨gb532, 3, none⟩ = some (.int .i64 a1_3) := (blk_cell BK532.out 3).trans rfl
                have hc4_ : w'.cell? ⟨gb532, 4, none⟩ = some (.int .i64 a1_4) := (blk_cell BK532.out 4).trans rfl
                have hc5_ : w'.cell? ⟨gb532, 5, none⟩ = some (.int .i64 a1_5) := (blk_cell BK532.out 5).trans rfl
                refine value_ (w1 := w') (v := .agg #[.int .i64 a1_0, .int .i64 a1_1, .int .i64 a1_2, .int .i64 a1_3, .int .i64 a1_4, .int .i64 a1_5]) (by rfl) rfl ?_ ?_
                · go_simp
                  (try simp only [i64_w])
                  try rfl
                refine hK.out _ _ ⟨gb553, gb554, m10_, m11_, (by rw [ha.out]; exact putSel_upk 5 hb_ rfl rfl rfl), Q_BK531, Q_BK532, Q_BK533, Q_HB, Q_NB554_553, Q_NB553_554, Q_BK553, Q_GW553, Q_GE553, Q_NB531_553, Q_NB553_531, Q_NB532_553, Q_NB553_532, Q_NB533_553, Q_NB553_533, Q_BK554, Q_GW554, Q_GE554, Q_NB531_554, Q_NB554_531, Q_NB532_554, Q_NB554_532, Q_NB533_554, Q_NB554_533, fun h0_ => absurd ((hoff 12 (by kernel_rfl)).symm.trans h0_) (by decide), fun h0_ => absurd ((hoff 13 (by kernel_rfl)).symm.trans h0_) (by decide), Q_X10_, Q_X11_⟩
              refine steps_cons ?_ ?_
              · rintro b a w' ⟨gb553, gb554, m10_, m11_, ha, Q_BK531, Q_BK532, Q_BK533, Q_HB, Q_NB554_553, Q_NB553_554, Q_BK553, Q_GW553, Q_GE553, Q_NB531_553, Q_NB553_531, Q_NB532_553, Q_NB553_532, Q_NB533_553, Q_NB553_533, Q_BK554, Q_GW554, Q_GE554, Q_NB531_554, Q_NB554_531, Q_NB532_554, Q_NB554_532, Q_NB533_554, Q_NB554_533, Q_BK553_e12, Q_BK554_e13, Q_X10_, Q_X11_⟩ hb_ hon hoff
                refine ⟨_, rfl, fun K hK => ?_⟩
                have e3 : a.tmps[3]? = some (.pointer (some ⟨gb531, 0, none⟩)) := by rw [ha]; exact (putSel_off rfl).trans rfl
                replace ha := Aside0.mk ha
                have BK531 := Aside0.mk Q_BK531
                have BK532 := Aside0.mk Q_BK532
                have BK533 := Aside0.mk Q_BK533
                have HB := Aside0.mk Q_HB
                have hc0_ : w'.cell? ⟨gb531, 0, none⟩ = some (.int .i64 a0_0) := (blk_cell BK531.out 0).trans rfl
                have hc1_ : w'.cell? ⟨gb531, 1, none⟩ = some (.int .i64 a0_1) := (blk_cell BK531.out 1).trans rfl
                have hc2_ : w'.cell? ⟨gb531, 2, none⟩ = some (.int .i64 a0_2) := (blk_cell BK531.out 2).trans rfl
                have hc3_ : w'.cell? ⟨gb531, 3, none⟩ = some (.int .i64 a0_3) := (blk_cell BK531.out 3).trans rfl
                have hc4_ : w'.cell? ⟨gb531, 4, none⟩ = some (.int .i64 a0_4) := (blk_cell BK531.out 4).trans rfl
                have hc5_ : w'.cell? ⟨gb531, 5, none⟩ = some (.int .i64 a0_5) := (blk_cell BK531.out 5).trans rfl
                refine value_ (w1 := w') (v := .agg #[.int .i64 a0_0, .int .i64 a0_1, .int .i64 a0_2, .int .i64 a0_3, .int .i64 a0_4, .int .i64 a0_5]) (by rfl) rfl ?_ ?_
                · go_simp
                  (try simp only [i64_w])
                  try rfl
                refine hK.out _ _ ⟨gb553, gb554, m10_, m11_, (by rw [ha.out]; exact putSel_upk 6 hb_ rfl rfl rfl), Q_BK531, Q_BK532, Q_BK533, Q_HB, Q_NB554_553, Q_NB553_554, Q_BK553, Q_GW553, Q_GE553, Q_NB531_553, Q_NB553_531, Q_NB532_553, Q_NB553_532, Q_NB533_553, Q_NB553_533, Q_BK554, Q_GW554, Q_GE554, Q_NB531_554, Q_NB554_531, Q_NB532_554, Q_NB554_532, Q_NB533_554, Q_NB554_533, fun h0_ => absurd ((hoff 12 (by kernel_rfl)).symm.trans h0_) (by decide), fun h0_ => absurd ((hoff 13 (by kernel_rfl)).symm.trans h0_) (by decide), Q_X10_, Q_X11_⟩
              refine steps_cons ?_ ?_
              · rintro b a w' ⟨gb553, gb554, m10_, m11_, ha, Q_BK531, Q_BK532, Q_BK533, Q_HB, Q_NB554_553, Q_NB553_554, Q_BK553, Q_GW553, Q_GE553, Q_NB531_553, Q_NB553_531, Q_NB532_553, Q_NB553_532, Q_NB533_553, Q_NB553_533, Q_BK554, Q_GW554, Q_GE554, Q_NB531_554, Q_NB554_531, Q_NB532_554, Q_NB554_532, Q_NB533_554, Q_NB554_533, Q_BK553_e12, Q_BK554_e13, Q_X10_, Q_X11_⟩ hb_ hon hoff
                refine ⟨_, rfl, fun K hK => ?_⟩
                have e5 : a.tmps[5]? = some (.pointer (some ⟨gb533, 0, none⟩)) := by rw [ha]; exact (putSel_off rfl).trans rfl
                replace ha := Aside0.mk ha
                have BK531 := Aside0.mk Q_BK531
                have BK532 := Aside0.mk Q_BK532
                have BK533 := Aside0.mk Q_BK533
                have HB := Aside0.mk Q_HB
                have hc0_ : w'.cell? ⟨gb533, 0, none⟩ = some (.int .i64 a2_0) := (blk_cell BK533.out 0).trans rfl
                have hc1_ : w'.cell? ⟨gb533, 1, none⟩ = some (.int .i64 a2_1) := (blk_cell BK533.out 1).trans rfl
                refine value_ (w1 := w') (v := .agg #[.int .i64 a2_0, .int .i64 a2_1]) (by rfl) rfl ?_ ?_
                · go_simp
                  (try simp only [i64_w])
                  try rfl
                refine hK.out _ _ ⟨gb553, gb554, m10_, m11_, (by rw [ha.out]; exact putSel_upk 7 hb_ rfl rfl rfl), Q_BK531, Q_BK532, Q_BK533, Q_HB, Q_NB554_553, Q_NB553_554, Q_BK553, Q_GW553, Q_GE553, Q_NB531_553, Q_NB553_531, Q_NB532_553, Q_NB553_532, Q_NB533_553, Q_NB553_533, Q_BK554, Q_GW554, Q_GE554, Q_NB531_554, Q_NB554_531, Q_NB532_554, Q_NB554_532, Q_NB533_554, Q_NB554_533, fun h0_ => absurd ((hoff 12 (by kernel_rfl)).symm.trans h0_) (by decide), fun h0_ => absurd ((hoff 13 (by kernel_rfl)).symm.trans h0_) (by decide), Q_X10_, Q_X11_⟩
              refine steps_cons ?_ ?_
              · rintro b a w' ⟨gb553, gb554, m10_, m11_, ha, Q_BK531, Q_BK532, Q_BK533, Q_HB, Q_NB554_553, Q_NB553_554, Q_BK553, Q_GW553, Q_GE553, Q_NB531_553, Q_NB553_531, Q_NB532_553, Q_NB553_532, Q_NB533_553, Q_NB553_533, Q_BK554, Q_GW554, Q_GE554, Q_NB531_554, Q_NB554_531, Q_NB532_554, Q_NB554_532, Q_NB533_554, Q_NB554_533, Q_BK553_e12, Q_BK554_e13, Q_X10_, Q_X11_⟩ hb_ hon hoff
                refine ⟨_, rfl, fun K hK => ?_⟩
                have e33 : a.tmps[33]? = some (.agg #[.int .i64 a0_0, .int .i64 a0_1, .int .i64 a0_2, .int .i64 a0_3, .int .i64 a0_4, .int .i64 a0_5]) := by rw [ha]; exact putSel_on (e := (6, 33, .agg #[.int .i64 a0_0, .int .i64 a0_1, .int .i64 a0_2, .int .i64 a0_3, .int .i64 a0_4, .int .i64 a0_5])) 6 rfl rfl (hon 6 (by kernel_rfl)) rfl
                have e34 : a.tmps[34]? = some (.agg #[.int .i64 a2_0, .int .i64 a2_1]) := by rw [ha]; exact putSel_on (e := (7, 34, .agg #[.int .i64 a2_0, .int .i64 a2_1])) 7 rfl rfl (hon 7 (by kernel_rfl)) rfl
                replace ha := Aside0.mk ha
                have BK531 := Aside0.mk Q_BK531
                have BK532 := Aside0.mk Q_BK532
                have BK533 := Aside0.mk Q_BK533
                have HB := Aside0.mk Q_HB
                refine goes_ Try.func12 (by kernel_rfl) rfl #[.agg #[.int .i64 a0_0, .int .i64 a0_1, .int .i64 a0_2, .int .i64 a0_3, .int .i64 a0_4, .int .i64 a0_5], .agg #[.int .i64 a2_0, .int .i64 a2_1]] (by rfl) rfl rfl (by first | (simp only [List.map_toArray, List.map_cons, List.map_nil, Act.eval, Array.getD_eq_getD_getElem?, Option.getD_some, e33, e34]; done) | (simp only [List.map_toArray, List.map_cons, List.map_nil, Act.eval, Array.getD_eq_getD_getElem?, Option.getD_some, e33, e34]; rfl)) ?_
                with_reducible refine (affine_Apply.calls kj3 a0_0 a0_1 a0_2 a0_3 a0_4 a0_5 a2_0 a2_1 t549 t550 _ A40.out).mono ?_
                rintro e w51 ⟨rfl, hb⟩
                refine ⟨_, rfl, ?_⟩
                have n0_ := Aside0.mk (blk_below (g := gb531) (o := .cells #[.int .i64 a0_0, .int .i64 a0_1, .int .i64 a0_2, .int .i64 a0_3, .int .i64 a0_4, .int .i64 a0_5] 23 (0, 0)) (by (with_reducible repeat (first | refine blk_drewN ?_ _ | refine blk_drew ?_ | refine blk_alloc ?_ _)); exact BK531.out) hb)
                have n1_ := Aside0.mk (blk_below (g := gb532) (o := .cells #[.int .i64 a1_0, .int .i64 a1_1, .int .i64 a1_2, .int .i64 a1_3, .int .i64 a1_4, .int .i64 a1_5] 23 (0, 0)) (by (with_reducible repeat (first | refine blk_drewN ?_ _ | refine blk_drew ?_ | refine blk_alloc ?_ _)); exact BK532.out) hb)
                have n2_ := Aside0.mk (blk_below (g := gb533) (o := .cells #[.int .i64 a2_0, .int .i64 a2_1] 25 (0, 0)) (by (with_reducible repeat (first | refine blk_drewN ?_ _ | refine blk_drew ?_ | refine blk_alloc ?_ _)); exact BK533.out) hb)
                have n3_ := Aside0.mk (below_step (by repeat (first | (with_reducible first | exact HB.out | apply below_alloc | apply pw_below_drewN | apply below_drew1 | refine below_set ?_ GE531.out | refine below_set ?_ GE532.out | refine below_set ?_ GE533.out) | exact HB.out)) hb)
                have z_BK553 := fun (h0_ : b 10 = true) (h1_ : b 12 = false) => (show w51.heap[gb553]? = some (.cells #[.int .i64 0, .int .i64 0] 25 (0, 0)) from by first | exact (blk_below (g := gb553) (o := .cells #[.int .i64 0, .int .i64 0] 25 (0, 0)) (by (with_reducible repeat (first | refine blk_drewN ?_ _ | refine blk_drew ?_ | refine blk_alloc ?_ _)); exact (Q_BK553 h0_ h1_)) hb))
                have z_BK554 := fun (h0_ : b 11 = true) (h1_ : b 13 = false) => (show w51.heap[gb554]? = some (.cells #[.int .i64 0, .int .i64 0] 25 (0, 0)) from by first | exact (blk_below (g := gb554) (o := .cells #[.int .i64 0, .int .i64 0] 25 (0, 0)) (by (with_reducible repeat (first | refine blk_drewN ?_ _ | refine blk_drew ?_ | refine blk_alloc ?_ _)); exact (Q_BK554 h0_ h1_)) hb))
                clear BK531
                clear BK532
                clear BK533
                clear HB
                have BK531 := n0_
                have BK532 := n1_
                have BK533 := n2_
                have HB := n3_
                clear n0_ n1_ n2_ n3_
                (try clear hb)
                (try clear hb2)
                (try clear hk)
                (try clear hi)
                refine hK.out _ _ ⟨gb553, gb554, m10_, m11_, (by rw [ha.out]; exact putSel_upk 8 hb_ rfl rfl rfl), (by (with_reducible repeat (first | refine blk_drewN ?_ _ | refine blk_drew ?_ | refine blk_alloc ?_ _)); exact BK531.out), (by (with_reducible repeat (first | refine blk_drewN ?_ _ | refine blk_drew ?_ | refine blk_alloc ?_ _)); exact BK532.out), (by (with_reducible repeat (first | refine blk_drewN ?_ _ | refine blk_drew ?_ | refine blk_alloc ?_ _)); exact BK533.out), (by repeat (first | (with_reducible first | exact HB.out | apply below_alloc | apply pw_below_drewN | apply below_drew1 | refine below_set ?_ GE531.out | refine below_set ?_ GE532.out | refine below_set ?_ GE533.out) | exact HB.out)), Q_NB554_553, Q_NB553_554, z_BK553, Q_GW553, Q_GE553, Q_NB531_553, Q_NB553_531, Q_NB532_553, Q_NB553_532, Q_NB533_553, Q_NB553_533, z_BK554, Q_GW554, Q_GE554, Q_NB531_554, Q_NB554_531, Q_NB532_554, Q_NB554_532, Q_NB533_554, Q_NB554_533, fun h0_ => absurd ((hoff 12 (by kernel_rfl)).symm.trans h0_) (by decide), fun h0_ => absurd ((hoff 13 (by kernel_rfl)).symm.trans h0_) (by decide), Q_X10_, Q_X11_⟩
              refine steps_cons ?_ ?_
              · rintro b a w' ⟨gb553, gb554, m10_, m11_, ha, Q_BK531, Q_BK532, Q_BK533, Q_HB, Q_NB554_553, Q_NB553_554, Q_BK553, Q_GW553, Q_GE553, Q_NB531_553, Q_NB553_531, Q_NB532_553, Q_NB553_532, Q_NB533_553, Q_NB553_533, Q_BK554, Q_GW554, Q_GE554, Q_NB531_554, Q_NB554_531, Q_NB532_554, Q_NB554_532, Q_NB533_554, Q_NB554_533, Q_BK553_e12, Q_BK554_e13, Q_X10_, Q_X11_⟩ hb_ hon hoff
                refine ⟨_, rfl, fun K hK => ?_⟩
                have e32 : a.tmps[32]? = some (.agg #[.int .i64 a1_0, .int .i64 a1_1, .int .i64 a1_2, .int .i64 a1_3, .int .i64 a1_4, .int .i64 a1_5]) := by rw [ha]; exact putSel_on (e := (5, 32, .agg #[.int .i64 a1_0, .int .i64 a1_1, .int .i64 a1_2, .int .i64 a1_3, .int .i64 a1_4, .int .i64 a1_5])) 5 rfl rfl (hon 5 (by kernel_rfl)) rfl
                have e35 : a.tmps[35]? = some (.agg #[.int .i64 t549, .int .i64 t550]) := by rw [ha]; exact putSel_on (e := (8, 35, .agg #[.int .i64 t549, .int .i64 t550])) 8 rfl rfl (hon 8 (by kernel_rfl)) rfl
                replace ha := Aside0.mk ha
                have BK531 := Aside0.mk Q_BK531
                have BK532 := Aside0.mk Q_BK532
                have BK533 := Aside0.mk Q_BK533
                have HB := Aside0.mk Q_HB
                refine goes_ Try.func12 (by kernel_rfl) rfl #[.agg #[.int .i64 a1_0, .int .i64 a1_1, .int .i64 a1_2, .int .i64 a1_3, .int .i64 a1_4, .int .i64 a1_5], .agg #[.int .i64 t549, .int .i64 t550]] (by rfl) rfl rfl (by first | (simp only [List.map_toArray, List.map_cons, List.map_nil, Act.eval, Array.getD_eq_getD_getElem?, Option.getD_some, e32, e35]; done) | (simp only [List.map_toArray, List.map_cons, List.map_nil, Act.eval, Array.getD_eq_getD_getElem?, Option.getD_some, e32, e35]; rfl)) ?_
                with_reducible refine (affine_Apply.calls kj3 a1_0 a1_1 a1_2 a1_3 a1_4 a1_5 t549 t550 t551 t552 _ A41.out).mono ?_
                rintro e w52 ⟨rfl, hb⟩
                refine ⟨_, rfl, ?_⟩
                have n0_ := Aside0.mk (blk_below (g := gb531) (o := .cells #[.int .i64 a0_0, .int .i64 a0_1, .int .i64 a0_2, .int .i64 a0_3, .int .i64 a0_4, .int .i64 a0_5] 23 (0, 0)) (by (with_reducible repeat (first | refine blk_drewN ?_ _ | refine blk_drew ?_ | refine blk_alloc ?_ _)); exact BK531.out) hb)
                have n1_ := Aside0.mk (blk_below (g := gb532) (o := .cells #[.int .i64 a1_0, .int .i64 a1_1, .int .i64 a1_2, .int .i64 a1_3, .int .i64 a1_4, .int .i64 a1_5] 23 (0, 0)) (by (with_reducible repeat (first | refine blk_drewN ?_ _ | refine blk_drew ?_ | refine blk_alloc ?_ _)); exact BK532.out) hb)
                have n2_ := Aside0.mk (blk_below (g := gb533) (o := .cells #[.int .i64 a2_0, .int .i64 a2_1] 25 (0, 0)) (by (with_reducible repeat (first | refine blk_drewN ?_ _ | refine blk_drew ?_ | refine blk_alloc ?_ _)); exact BK533.out) hb)
                have n3_ := Aside0.mk (below_step (by repeat (first | (with_reducible first | exact HB.out | apply below_alloc | apply pw_below_drewN | apply below_drew1 | refine below_set ?_ GE531.out | refine below_set ?_ GE532.out | refine below_set ?_ GE533.out) | exact HB.out)) hb)
                have z_BK553 := fun (h0_ : b 10 = true) (h1_ : b 12 = false) => (show w52.heap[gb553]? = some (.cells #[.int .i64 0, .int .i64 0] 25 (0, 0)) from by first | exact (blk_below (g := gb553) (o := .cells #[.int .i64 0, .int .i64 0] 25 (0, 0)) (by (with_reducible repeat (first | refine blk_drewN ?_ _ | refine blk_drew ?_ | refine blk_alloc ?_ _)); exact (Q_BK553 h0_ h1_)) hb))
                have z_BK554 := fun (h0_ : b 11 = true) (h1_ : b 13 = false) => (show w52.heap[gb554]? = some (.cells #[.int .i64 0, .int .i64 0] 25 (0, 0)) from by first | exact (blk_below (g := gb554) (o := .cells #[.int .i64 0, .int .i64 0] 25 (0, 0)) (by (with_reducible repeat (first | refine blk_drewN ?_ _ | refine blk_drew ?_ | refine blk_alloc ?_ _)); exact (Q_BK554 h0_ h1_)) hb))
                clear BK531
                clear BK532
                clear BK533
                clear HB
                have BK531 := n0_
                have BK532 := n1_
                have BK533 := n2_
                have HB := n3_
                clear n0_ n1_ n2_ n3_
                (try clear hb)
                (try clear hb2)
                (try clear hk)
                (try clear hi)
                refine hK.out _ _ ⟨gb553, gb554, m10_, m11_, (by rw [ha.out]; exact putSel_upk 9 hb_ rfl rfl rfl), (by (with_reducible repeat (first | refine blk_drewN ?_ _ | refine blk_drew ?_ | refine blk_alloc ?_ _)); exact BK531.out), (by (with_reducible repeat (first | refine blk_drewN ?_ _ | refine blk_drew ?_ | refine blk_alloc ?_ _)); exact BK532.out), (by (with_reducible repeat (first | refine blk_drewN ?_ _ | refine blk_drew ?_ | refine blk_alloc ?_ _)); exact BK533.out), (by repeat (first | (with_reducible first | exact HB.out | apply below_alloc | apply pw_below_drewN | apply below_drew1 | refine below_set ?_ GE531.out | refine below_set ?_ GE532.out | refine below_set ?_ GE533.out) | exact HB.out)), Q_NB554_553, Q_NB553_554, z_BK553, Q_GW553, Q_GE553, Q_NB531_553, Q_NB553_531, Q_NB532_553, Q_NB553_532, Q_NB533_553, Q_NB553_533, z_BK554, Q_GW554, Q_GE554, Q_NB531_554, Q_NB554_531, Q_NB532_554, Q_NB554_532, Q_NB533_554, Q_NB554_533, fun h0_ => absurd ((hoff 12 (by kernel_rfl)).symm.trans h0_) (by decide), fun h0_ => absurd ((hoff 13 (by kernel_rfl)).symm.trans h0_) (by decide), Q_X10_, Q_X11_⟩
              refine steps_cons ?_ ?_
              · rintro b a w' ⟨gb553, gb554, m10_, m11_, ha, Q_BK531, Q_BK532, Q_BK533, Q_HB, Q_NB554_553, Q_NB553_554, Q_BK553, Q_GW553, Q_GE553, Q_NB531_553, Q_NB553_531, Q_NB532_553, Q_NB553_532, Q_NB533_553, Q_NB553_533, Q_BK554, Q_GW554, Q_GE554, Q_NB531_554, Q_NB554_531, Q_NB532_554, Q_NB554_532, Q_NB533_554, Q_NB554_533, Q_BK553_e12, Q_BK554_e13, Q_X10_, Q_X11_⟩ hb_ hon hoff
                refine ⟨_, rfl, fun K hK => ?_⟩
                replace ha := Aside0.mk ha
                have BK531 := Aside0.mk Q_BK531
                have BK532 := Aside0.mk Q_BK532
                have BK533 := Aside0.mk Q_BK533
                have HB := Aside0.mk Q_HB
                refine box_step ?hg (N := 7) ?hd (cs := #[.int .i64 0, .int .i64 0]) (t := 25) ?hr ?_; (case hd => rfl); (case hg => rfl); (case hr => first | (go_simp; done) | (go_simp; rfl))
                intro gb553 hg w48 hbox hb
                have n0_ := Aside0.mk (blk_below (g := gb531) (o := .cells #[.int .i64 a0_0, .int .i64 a0_1, .int .i64 a0_2, .int .i64 a0_3, .int .i64 a0_4, .int .i64 a0_5] 23 (0, 0)) (by (with_reducible repeat (first | refine blk_drewN ?_ _ | refine blk_drew ?_ | refine blk_alloc ?_ _)); exact BK531.out) hb)
                have n1_ := Aside0.mk (blk_below (g := gb532) (o := .cells #[.int .i64 a1_0, .int .i64 a1_1, .int .i64 a1_2, .int .i64 a1_3, .int .i64 a1_4, .int .i64 a1_5] 23 (0, 0)) (by (with_reducible repeat (first | refine blk_drewN ?_ _ | refine blk_drew ?_ | refine blk_alloc ?_ _)); exact BK532.out) hb)
                have n2_ := Aside0.mk (blk_below (g := gb533) (o := .cells #[.int .i64 a2_0, .int .i64 a2_1] 25 (0, 0)) (by (with_reducible repeat (first | refine blk_drewN ?_ _ | refine blk_drew ?_ | refine blk_alloc ?_ _)); exact BK533.out) hb)
                have n3_ := Aside0.mk (below_step (by repeat (first | (with_reducible first | exact HB.out | apply below_alloc | apply pw_below_drewN | apply below_drew1 | refine below_set ?_ GE531.out | refine below_set ?_ GE532.out | refine below_set ?_ GE533.out) | exact HB.out)) hb)
                have n4_ := Aside0.mk (hbox)
                have n5_ := Aside0.mk ((by rw [hg]; exact (below_size (by repeat (first | (with_reducible first | exact HB.out | apply below_alloc | apply pw_below_drewN | apply below_drew1 | refine below_set ?_ GE531.out | refine below_set ?_ GE532.out | refine below_set ?_ GE533.out) | exact HB.out))) : w.heap.size ≤ gb553))
                have n6_ := Aside0.mk ((by rw [hg]; exact (below_size (by repeat (first | (with_reducible first | exact HB.out | apply below_alloc | apply pw_below_drewN | apply below_drew1 | refine below_set ?_ GE531.out | refine below_set ?_ GE532.out | refine below_set ?_ GE533.out) | exact HB.out))) : w.heap.size ≤ gb553))
                have n7_ := Aside0.mk ((by rw [hg]; exact Nat.ne_of_lt (blk_lt (g := gb531) (o := .cells #[.int .i64 a0_0, .int .i64 a0_1, .int .i64 a0_2, .int .i64 a0_3, .int .i64 a0_4, .int .i64 a0_5] 23 (0, 0)) (by (with_reducible repeat (first | refine blk_drewN ?_ _ | refine blk_drew ?_ | refine blk_alloc ?_ _)); exact BK531.out)) : gb531 ≠ gb553))
                have n8_ := Aside0.mk ((by rw [hg]; exact Nat.ne_of_gt (blk_lt (g := gb531) (o := .cells #[.int .i64 a0_0, .int .i64 a0_1, .int .i64 a0_2, .int .i64 a0_3, .int .i64 a0_4, .int .i64 a0_5] 23 (0, 0)) (by (with_reducible repeat (first | refine blk_drewN ?_ _ | refine blk_drew ?_ | refine blk_alloc ?_ _)); exact BK531.out)) : gb553 ≠ gb531))
                have n9_ := Aside0.mk ((by rw [hg]; exact Nat.ne_of_lt (blk_lt (g := gb532) (o := .cells #[.int .i64 a1_0, .int .i64 a1_1, .int .i64 a1_2, .int .i64 a1_3, .int .i64 a1_4, .int .i64 a1_5] 23 (0, 0)) (by (with_reducible repeat (first | refine blk_drewN ?_ _ | refine blk_drew ?_ | refine blk_alloc ?_ _)); exact BK532.out)) : gb532 ≠ gb553))
                have n10_ := Aside0.mk ((by rw [hg]; exact Nat.ne_of_gt (blk_lt (g := gb532) (o := .cells #[.int .i64 a1_0, .int .i64 a1_1, .int .i64 a1_2, .int .i64 a1_3, .int .i64 a1_4, .int .i64 a1_5] 23 (0, 0)) (by (with_reducible repeat (first | refine blk_drewN ?_ _ | refine blk_drew ?_ | refine blk_alloc ?_ _)); exact BK532.out)) : gb553 ≠ gb532))
                have n11_ := Aside0.mk ((by rw [hg]; exact Nat.ne_of_lt (blk_lt (g := gb533) (o := .cells #[.int .i64 a2_0, .int .i64 a2_1] 25 (0, 0)) (by (with_reducible repeat (first | refine blk_drewN ?_ _ | refine blk_drew ?_ | refine blk_alloc ?_ _)); exact BK533.out)) : gb533 ≠ gb553))
                have n12_ := Aside0.mk ((by rw [hg]; exact Nat.ne_of_gt (blk_lt (g := gb533) (o := .cells #[.int .i64 a2_0, .int .i64 a2_1] 25 (0, 0)) (by (with_reducible repeat (first | refine blk_drewN ?_ _ | refine blk_drew ?_ | refine blk_alloc ?_ _)); exact BK533.out)) : gb553 ≠ gb533))
                have z_NB554_553 := fun (h0_ : up b 10 10 = true) (h1_ : up b 10 11 = true) => (show gb554 ≠ gb553 from ((by rw [hg]; exact Nat.ne_of_lt (blk_lt (g := gb554) (o := .cells #[.int .i64 0, .int .i64 0] 25 (0, 0)) (by (with_reducible repeat (first | refine blk_drewN ?_ _ | refine blk_drew ?_ | refine blk_alloc ?_ _)); exact (Q_BK554 h1_ (hoff 13 (by kernel_rfl))))) : gb554 ≠ gb553)))
                have z_NB553_554 := fun (h0_ : up b 10 10 = true) (h1_ : up b 10 11 = true) => (show gb553 ≠ gb554 from ((by rw [hg]; exact Nat.ne_of_gt (blk_lt (g := gb554) (o := .cells #[.int .i64 0, .int .i64 0] 25 (0, 0)) (by (with_reducible repeat (first | refine blk_drewN ?_ _ | refine blk_drew ?_ | refine blk_alloc ?_ _)); exact (Q_BK554 h1_ (hoff 13 (by kernel_rfl))))) : gb553 ≠ gb554)))
                have z_BK554 := fun (h0_ : b 11 = true) (h1_ : b 13 = false) => (show w48.heap[gb554]? = some (.cells #[.int .i64 0, .int .i64 0] 25 (0, 0)) from by first | exact (blk_below (g := gb554) (o := .cells #[.int .i64 0, .int .i64 0] 25 (0, 0)) (by (with_reducible repeat (first | refine blk_drewN ?_ _ | refine blk_drew ?_ | refine blk_alloc ?_ _)); exact (Q_BK554 h0_ h1_)) hb))
                clear BK531
                clear BK532
                clear BK533
                clear HB
                have BK531 := n0_
                have BK532 := n1_
                have BK533 := n2_
                have HB := n3_
                have BK553 := n4_
                have GW553 := n5_
                have GE553 := n6_
                have NB531_553 := n7_
                have NB553_531 := n8_
                have NB532_553 := n9_
                have NB553_532 := n10_
                have NB533_553 := n11_
                have NB553_533 := n12_
                clear n0_ n1_ n2_ n3_ n4_ n5_ n6_ n7_ n8_ n9_ n10_ n11_ n12_
                clear hb hbox hg
                refine hK.out _ _ ⟨gb553, gb554, (.pointer (some ⟨gb553, 0, none⟩)), m11_, (by rw [ha.out]; exact putSel_upk 10 hb_ rfl rfl rfl), (by (with_reducible repeat (first | refine blk_drewN ?_ _ | refine blk_drew ?_ | refine blk_alloc ?_ _)); exact BK531.out), (by (with_reducible repeat (first | refine blk_drewN ?_ _ | refine blk_drew ?_ | refine blk_alloc ?_ _)); exact BK532.out), (by (with_reducible repeat (first | refine blk_drewN ?_ _ | refine blk_drew ?_ | refine blk_alloc ?_ _)); exact BK533.out), (by repeat (first | (with_reducible first | exact HB.out | apply below_alloc | apply pw_below_drewN | apply below_drew1 | refine below_set ?_ GE531.out | refine below_set ?_ GE532.out | refine below_set ?_ GE533.out | refine below_set ?_ GE553.out) | exact HB.out)), z_NB554_553, z_NB553_554, fun _ _ => (by (with_reducible repeat (first | refine blk_drewN ?_ _ | refine blk_drew ?_ | refine blk_alloc ?_ _)); exact BK553.out), fun _ => GW553.out, fun _ => GE553.out, fun _ => NB531_553.out, fun _ => NB553_531.out, fun _ => NB532_553.out, fun _ => NB553_532.out, fun _ => NB533_553.out, fun _ => NB553_533.out, z_BK554, Q_GW554, Q_GE554, Q_NB531_554, Q_NB554_531, Q_NB532_554, Q_NB554_532, Q_NB533_554, Q_NB554_533, fun h0_ => absurd ((hoff 12 (by kernel_rfl)).symm.trans h0_) (by decide), fun h0_ => absurd ((hoff 13 (by kernel_rfl)).symm.trans h0_) (by decide), fun _ => rfl, Q_X11_⟩
              refine steps_cons ?_ ?_
              · rintro b a w' ⟨gb553, gb554, m10_, m11_, ha, Q_BK531, Q_BK532, Q_BK533, Q_HB, Q_NB554_553, Q_NB553_554, Q_BK553, Q_GW553, Q_GE553, Q_NB531_553, Q_NB553_531, Q_NB532_553, Q_NB553_532, Q_NB533_553, Q_NB553_533, Q_BK554, Q_GW554, Q_GE554, Q_NB531_554, Q_NB554_531, Q_NB532_554, Q_NB554_532, Q_NB533_554, Q_NB554_533, Q_BK553_e12, Q_BK554_e13, Q_X10_, Q_X11_⟩ hb_ hon hoff
                refine ⟨_, rfl, fun K hK => ?_⟩
                replace ha := Aside0.mk ha
                have BK531 := Aside0.mk Q_BK531
                have BK532 := Aside0.mk Q_BK532
                have BK533 := Aside0.mk Q_BK533
                have HB := Aside0.mk Q_HB
                refine box_step ?hg (N := 8) ?hd (cs := #[.int .i64 0, .int .i64 0]) (t := 25) ?hr ?_; (case hd => rfl); (case hg => rfl); (case hr => first | (go_simp; done) | (go_simp; rfl))
                intro gb554 hg w48 hbox hb
                have n0_ := Aside0.mk (blk_below (g := gb531) (o := .cells #[.int .i64 a0_0, .int .i64 a0_1, .int .i64 a0_2, .int .i64 a0_3, .int .i64 a0_4, .int .i64 a0_5] 23 (0, 0)) (by (with_reducible repeat (first | refine blk_drewN ?_ _ | refine blk_drew ?_ | refine blk_alloc ?_ _)); exact BK531.out) hb)
                have n1_ := Aside0.mk (blk_below (g := gb532) (o := .cells #[.int .i64 a1_0, .int .i64 a1_1, .int .i64 a1_2, .int .i64 a1_3, .int .i64 a1_4, .int .i64 a1_5] 23 (0, 0)) (by (with_reducible repeat (first | refine blk_drewN ?_ _ | refine blk_drew ?_ | refine blk_alloc ?_ _)); exact BK532.out) hb)
                have n2_ := Aside0.mk (blk_below (g := gb533) (o := .cells #[.int .i64 a2_0, .int .i64 a2_1] 25 (0, 0)) (by (with_reducible repeat (first | refine blk_drewN ?_ _ | refine blk_drew ?_ | refine blk_alloc ?_ _)); exact BK533.out) hb)
                have n3_ := Aside0.mk (below_step (by repeat (first | (with_reducible first | exact HB.out | apply below_alloc | apply pw_below_drewN | apply below_drew1 | refine below_set ?_ GE531.out | refine below_set ?_ GE532.out | refine below_set ?_ GE533.out) | exact HB.out)) hb)
                have n4_ := Aside0.mk (hbox)
                have n5_ := Aside0.mk ((by rw [hg]; exact (below_size (by repeat (first | (with_reducible first | exact HB.out | apply below_alloc | apply pw_below_drewN | apply below_drew1 | refine below_set ?_ GE531.out | refine below_set ?_ GE532.out | refine below_set ?_ GE533.out) | exact HB.out))) : w.heap.size ≤ gb554))
                have n6_ := Aside0.mk ((by rw [hg]; exact (below_size (by repeat (first | (with_reducible first | exact HB.out | apply below_alloc | apply pw_below_drewN | apply below_drew1 | refine below_set ?_ GE531.out | refine below_set ?_ GE532.out | refine below_set ?_ GE533.out) | exact HB.out))) : w.heap.size ≤ gb554))
                have n7_ := Aside0.mk ((by rw [hg]; exact Nat.ne_of_lt (blk_lt (g := gb531) (o := .cells #[.int .i64 a0_0, .int .i64 a0_1, .int .i64 a0_2, .int .i64 a0_3, .int .i64 a0_4, .int .i64 a0_5] 23 (0, 0)) (by (with_reducible repeat (first | refine blk_drewN ?_ _ | refine blk_drew ?_ | refine blk_alloc ?_ _)); exact BK531.out)) : gb531 ≠ gb554))
                have n8_ := Aside0.mk ((by rw [hg]; exact Nat.ne_of_gt (blk_lt (g := gb531) (o := .cells #[.int .i64 a0_0, .int .i64 a0_1, .int .i64 a0_2, .int .i64 a0_3, .int .i64 a0_4, .int .i64 a0_5] 23 (0, 0)) (by (with_reducible repeat (first | refine blk_drewN ?_ _ | refine blk_drew ?_ | refine blk_alloc ?_ _)); exact BK531.out)) : gb554 ≠ gb531))
                have n9_ := Aside0.mk ((by rw [hg]; exact Nat.ne_of_lt (blk_lt (g := gb532) (o := .cells #[.int .i64 a1_0, .int .i64 a1_1, .int .i64 a1_2, .int .i64 a1_3, .int .i64 a1_4, .int .i64 a1_5] 23 (0, 0)) (by (with_reducible repeat (first | refine blk_drewN ?_ _ | refine blk_drew ?_ | refine blk_alloc ?_ _)); exact BK532.out)) : gb532 ≠ gb554))
                have n10_ := Aside0.mk ((by rw [hg]; exact Nat.ne_of_gt (blk_lt (g := gb532) (o := .cells #[.int .i64 a1_0, .int .i64 a1_1, .int .i64 a1_2, .int .i64 a1_3, .int .i64 a1_4, .int .i64 a1_5] 23 (0, 0)) (by (with_reducible repeat (first | refine blk_drewN ?_ _ | refine blk_drew ?_ | refine blk_alloc ?_ _)); exact BK532.out)) : gb554 ≠ gb532))
                have n11_ := Aside0.mk ((by rw [hg]; exact Nat.ne_of_lt (blk_lt (g := gb533) (o := .cells #[.int .i64 a2_0, .int .i64 a2_1] 25 (0, 0)) (by (with_reducible repeat (first | refine blk_drewN ?_ _ | refine blk_drew ?_ | refine blk_alloc ?_ _)); exact BK533.out)) : gb533 ≠ gb554))
                have n12_ := Aside0.mk ((by rw [hg]; exact Nat.ne_of_gt (blk_lt (g := gb533) (o := .cells #[.int .i64 a2_0, .int .i64 a2_1] 25 (0, 0)) (by (with_reducible repeat (first | refine blk_drewN ?_ _ | refine blk_drew ?_ | refine blk_alloc ?_ _)); exact BK533.out)) : gb554 ≠ gb533))
                have z_NB554_553 := fun (h0_ : up b 11 10 = true) (h1_ : up b 11 11 = true) => (show gb554 ≠ gb553 from ((by rw [hg]; exact Nat.ne_of_gt (blk_lt (g := gb553) (o := .cells #[.int .i64 0, .int .i64 0] 25 (0, 0)) (by (with_reducible repeat (first | refine blk_drewN ?_ _ | refine blk_drew ?_ | refine blk_alloc ?_ _)); exact (Q_BK553 h0_ (hoff 12 (by kernel_rfl))))) : gb554 ≠ gb553)))
                have z_NB553_554 := fun (h0_ : up b 11 10 = true) (h1_ : up b 11 11 = true) => (show gb553 ≠ gb554 from ((by rw [hg]; exact Nat.ne_of_lt (blk_lt (g := gb553) (o := .cells #[.int .i64 0, .int .i64 0] 25 (0, 0)) (by (with_reducible repeat (first | refine blk_drewN ?_ _ | refine blk_drew ?_ | refine blk_alloc ?_ _)); exact (Q_BK553 h0_ (hoff 12 (by kernel_rfl))))) : gb553 ≠ gb554)))
                have z_BK553 := fun (h0_ : b 10 = true) (h1_ : b 12 = false) => (show w48.heap[gb553]? = some (.cells #[.int .i64 0, .int .i64 0] 25 (0, 0)) from by first | exact (blk_below (g := gb553) (o := .cells #[.int .i64 0, .int .i64 0] 25 (0, 0)) (by (with_reducible repeat (first | refine blk_drewN ?_ _ | refine blk_drew ?_ | refine blk_alloc ?_ _)); exact (Q_BK553 h0_ h1_)) hb))
                clear BK531
                clear BK532
                clear BK533
                clear HB
                have BK531 := n0_
                have BK532 := n1_
                have BK533 := n2_
                have HB := n3_
                have BK554 := n4_
                have GW554 := n5_
                have GE554 := n6_
                have NB531_554 := n7_
                have NB554_531 := n8_
                have NB532_554 := n9_
                have NB554_532 := n10_
                have NB533_554 := n11_
                have NB554_533 := n12_
                clear n0_ n1_ n2_ n3_ n4_ n5_ n6_ n7_ n8_ n9_ n10_ n11_ n12_
                clear hb hbox hg
                refine hK.out _ _ ⟨gb553, gb554, m10_, (.pointer (some ⟨gb554, 0, none⟩)), (by rw [ha.out]; exact putSel_upk 11 hb_ rfl rfl rfl), (by (with_reducible repeat (first | refine blk_drewN ?_ _ | refine blk_drew ?_ | refine blk_alloc ?_ _)); exact BK531.out), (by (with_reducible repeat (first | refine blk_drewN ?_ _ | refine blk_drew ?_ | refine blk_alloc ?_ _)); exact BK532.out), (by (with_reducible repeat (first | refine blk_drewN ?_ _ | refine blk_drew ?_ | refine blk_alloc ?_ _)); exact BK533.out), (by repeat (first | (with_reducible first | exact HB.out | apply below_alloc | apply pw_below_drewN | apply below_drew1 | refine below_set ?_ GE531.out | refine below_set ?_ GE532.out | refine below_set ?_ GE533.out | refine below_set ?_ GE554.out) | exact HB.out)), z_NB554_553, z_NB553_554, z_BK553, Q_GW553, Q_GE553, Q_NB531_553, Q_NB553_531, Q_NB532_553, Q_NB553_532, Q_NB533_553, Q_NB553_533, fun _ _ => (by (with_reducible repeat (first | refine blk_drewN ?_ _ | refine blk_drew ?_ | refine blk_alloc ?_ _)); exact BK554.out), fun _ => GW554.out, fun _ => GE554.out, fun _ => NB531_554.out, fun _ => NB554_531.out, fun _ => NB532_554.out, fun _ => NB554_532.out, fun _ => NB533_554.out, fun _ => NB554_533.out, fun h0_ => absurd ((hoff 12 (by kernel_rfl)).symm.trans h0_) (by decide), fun h0_ => absurd ((hoff 13 (by kernel_rfl)).symm.trans h0_) (by decide), Q_X10_, fun _ => rfl⟩
              refine steps_cons ?_ ?_
              · rintro b a w' ⟨gb553, gb554, m10_, m11_, ha, Q_BK531, Q_BK532, Q_BK533, Q_HB, Q_NB554_553, Q_NB553_554, Q_BK553, Q_GW553, Q_GE553, Q_NB531_553, Q_NB553_531, Q_NB532_553, Q_NB553_532, Q_NB533_553, Q_NB553_533, Q_BK554, Q_GW554, Q_GE554, Q_NB531_554, Q_NB554_531, Q_NB532_554, Q_NB554_532, Q_NB533_554, Q_NB554_533, Q_BK553_e12, Q_BK554_e13, Q_X10_, Q_X11_⟩ hb_ hon hoff
                refine ⟨_, rfl, fun K hK => ?_⟩
                have e7 : a.tmps[7]? = some (m10_) := by rw [ha]; exact putSel_on (e := (10, 7, m10_)) 10 rfl rfl (hon 10 (by kernel_rfl)) rfl
                rw [Q_X10_ (hon 10 (by kernel_rfl))] at e7
                have e31 : a.tmps[31]? = some (.agg #[.int .i64 t547, .int .i64 t548]) := by rw [ha]; exact putSel_on (e := (4, 31, .agg #[.int .i64 t547, .int .i64 t548])) 4 rfl rfl (hon 4 (by kernel_rfl)) rfl
                replace ha := Aside0.mk ha
                have BK531 := Aside0.mk Q_BK531
                have BK532 := Aside0.mk Q_BK532
                have BK533 := Aside0.mk Q_BK533
                have HB := Aside0.mk Q_HB
                have NB554_553 := Aside0.mk (Q_NB554_553 (hon 10 (by kernel_rfl)) (hon 11 (by kernel_rfl)))
                have NB553_554 := Aside0.mk (Q_NB553_554 (hon 10 (by kernel_rfl)) (hon 11 (by kernel_rfl)))
                have BK553 := Aside0.mk (Q_BK553 (hon 10 (by kernel_rfl)) hb_)
                have GW553 := Aside0.mk (Q_GW553 (hon 10 (by kernel_rfl)))
                have GE553 := Aside0.mk (Q_GE553 (hon 10 (by kernel_rfl)))
                have NB531_553 := Aside0.mk (Q_NB531_553 (hon 10 (by kernel_rfl)))
                have NB553_531 := Aside0.mk (Q_NB553_531 (hon 10 (by kernel_rfl)))
                have NB532_553 := Aside0.mk (Q_NB532_553 (hon 10 (by kernel_rfl)))
                have NB553_532 := Aside0.mk (Q_NB553_532 (hon 10 (by kernel_rfl)))
                have NB533_553 := Aside0.mk (Q_NB533_553 (hon 10 (by kernel_rfl)))
                have NB553_533 := Aside0.mk (Q_NB553_533 (hon 10 (by kernel_rfl)))
                have BK554 := Aside0.mk (Q_BK554 (hon 11 (by kernel_rfl)) (hoff 13 (by kernel_rfl)))
                have GW554 := Aside0.mk (Q_GW554 (hon 11 (by kernel_rfl)))
                have GE554 := Aside0.mk (Q_GE554 (hon 11 (by kernel_rfl)))
                have NB531_554 := Aside0.mk (Q_NB531_554 (hon 11 (by kernel_rfl)))
                have NB554_531 := Aside0.mk (Q_NB554_531 (hon 11 (by kernel_rfl)))
                have NB532_554 := Aside0.mk (Q_NB532_554 (hon 11 (by kernel_rfl)))
                have NB554_532 := Aside0.mk (Q_NB554_532 (hon 11 (by kernel_rfl)))
                have NB533_554 := Aside0.mk (Q_NB533_554 (hon 11 (by kernel_rfl)))
                have NB554_533 := Aside0.mk (Q_NB554_533 (hon 11 (by kernel_rfl)))
                have hs55 : w'.cell? ⟨gb553, 0, none⟩ = some (.int .i64 0) := (blk_cell BK553.out 0).trans rfl
                have hfs55 := blk_frozen BK553.out 0
                have hns55_0 := NB531_553.out
                have hns55_1 := NB532_553.out
                have hns55_2 := NB533_553.out
                have hns55_4 := NB554_553.out
                have hms55_0 := NB553_531.out
                have hms55_1 := NB553_532.out
                have hms55_2 := NB553_533.out
                have hms55_4 := NB553_554.out
                have hs56 : w'.cell? ⟨gb553, 1, none⟩ = some (.int .i64 0) := (blk_cell BK553.out 1).trans rfl
                have hfs56 := blk_frozen BK553.out 1
                have hns56_0 := NB531_553.out
                have hns56_1 := NB532_553.out
                have hns56_2 := NB533_553.out
                have hns56_4 := NB554_553.out
                have hms56_0 := NB553_531.out
                have hms56_1 := NB553_532.out
                have hms56_2 := NB553_533.out
                have hms56_4 := NB553_554.out
                refine skip_ (w1 := ?_) (by rfl) rfl ?_ ?_
                rotate_left
                · go_simp
                  rfl
                refine hK.out _ _ ⟨gb553, gb554, m10_, m11_, (by rw [ha.out]; exact putSel_none (v := undef) rfl), (by (with_reducible repeat (first | refine blk_drewN ?_ _ | refine blk_drew ?_ | refine blk_alloc ?_ _)); refine blk_far ?_ NB531_553.out _; (with_reducible repeat (first | refine blk_drewN ?_ _ | refine blk_drew ?_ | refine blk_alloc ?_ _)); refine blk_far ?_ NB531_553.out _; (with_reducible repeat (first | refine blk_drewN ?_ _ | refine blk_drew ?_ | refine blk_alloc ?_ _)); exact BK531.out), (by (with_reducible repeat (first | refine blk_drewN ?_ _ | refine blk_drew ?_ | refine blk_alloc ?_ _)); refine blk_far ?_ NB532_553.out _; (with_reducible repeat (first | refine blk_drewN ?_ _ | refine blk_drew ?_ | refine blk_alloc ?_ _)); refine blk_far ?_ NB532_553.out _; (with_reducible repeat (first | refine blk_drewN ?_ _ | refine blk_drew ?_ | refine blk_alloc ?_ _)); exact BK532.out), (by (with_reducible repeat (first | refine blk_drewN ?_ _ | refine blk_drew ?_ | refine blk_alloc ?_ _)); refine blk_far ?_ NB533_553.out _; (with_reducible repeat (first | refine blk_drewN ?_ _ | refine blk_drew ?_ | refine blk_alloc ?_ _)); refine blk_far ?_ NB533_553.out _; (with_reducible repeat (first | refine blk_drewN ?_ _ | refine blk_drew ?_ | refine blk_alloc ?_ _)); exact BK533.out), (by repeat (first | (with_reducible first | exact HB.out | apply below_alloc | apply pw_below_drewN | apply below_drew1 | refine below_set ?_ GE531.out | refine below_set ?_ GE532.out | refine below_set ?_ GE533.out | refine below_set ?_ GE553.out | refine below_set ?_ GE554.out) | exact HB.out)), fun _ _ => NB554_553.out, fun _ _ => NB553_554.out, fun _ h1_ => absurd ((up_self b 12).symm.trans h1_) (by decide), fun _ => GW553.out, fun _ => GE553.out, fun _ => NB531_553.out, fun _ => NB553_531.out, fun _ => NB532_553.out, fun _ => NB553_532.out, fun _ => NB533_553.out, fun _ => NB553_533.out, fun _ _ => (by (with_reducible repeat (first | refine blk_drewN ?_ _ | refine blk_drew ?_ | refine blk_alloc ?_ _)); refine blk_far ?_ NB554_553.out _; (with_reducible repeat (first | refine blk_drewN ?_ _ | refine blk_drew ?_ | refine blk_alloc ?_ _)); refine blk_far ?_ NB554_553.out _; (with_reducible repeat (first | refine blk_drewN ?_ _ | refine blk_drew ?_ | refine blk_alloc ?_ _)); exact BK554.out), fun _ => GW554.out, fun _ => GE554.out, fun _ => NB531_554.out, fun _ => NB554_531.out, fun _ => NB532_554.out, fun _ => NB554_532.out, fun _ => NB533_554.out, fun _ => NB554_533.out, fun _ => (by (with_reducible repeat (first | refine blk_drewN ?_ _ | refine blk_drew ?_ | refine blk_alloc ?_ _)); refine blk_put (cs := #[.int .i64 t547, .int .i64 0]) ?_ 1 _ rfl; (with_reducible repeat (first | refine blk_drewN ?_ _ | refine blk_drew ?_ | refine blk_alloc ?_ _)); refine blk_put (cs := #[.int .i64 0, .int .i64 0]) ?_ 0 _ rfl; (with_reducible repeat (first | refine blk_drewN ?_ _ | refine blk_drew ?_ | refine blk_alloc ?_ _)); exact BK553.out), fun h0_ => absurd ((hoff 13 (by kernel_rfl)).symm.trans h0_) (by decide), Q_X10_, Q_X11_⟩
              refine steps_cons ?_ ?_
              · rintro b a w' ⟨gb553, gb554, m10_, m11_, ha, Q_BK531, Q_BK532, Q_BK533, Q_HB, Q_NB554_553, Q_NB553_554, Q_BK553, Q_GW553, Q_GE553, Q_NB531_553, Q_NB553_531, Q_NB532_553, Q_NB553_532, Q_NB533_553, Q_NB553_533, Q_BK554, Q_GW554, Q_GE554, Q_NB531_554, Q_NB554_531, Q_NB532_554, Q_NB554_532, Q_NB533_554, Q_NB554_533, Q_BK553_e12, Q_BK554_e13, Q_X10_, Q_X11_⟩ hb_ hon hoff
                refine ⟨_, rfl, fun K hK => ?_⟩
                have e8 : a.tmps[8]? = some (m11_) := by rw [ha]; exact putSel_on (e := (11, 8, m11_)) 11 rfl rfl (hon 11 (by kernel_rfl)) rfl
                rw [Q_X11_ (hon 11 (by kernel_rfl))] at e8
                have e36 : a.tmps[36]? = some (.agg #[.int .i64 t551, .int .i64 t552]) := by rw [ha]; exact putSel_on (e := (9, 36, .agg #[.int .i64 t551, .int .i64 t552])) 9 rfl rfl (hon 9 (by kernel_rfl)) rfl
                replace ha := Aside0.mk ha
                have BK531 := Aside0.mk Q_BK531
                have BK532 := Aside0.mk Q_BK532
                have BK533 := Aside0.mk Q_BK533
                have HB := Aside0.mk Q_HB
                have NB554_553 := Aside0.mk (Q_NB554_553 (hon 10 (by kernel_rfl)) (hon 11 (by kernel_rfl)))
                have NB553_554 := Aside0.mk (Q_NB553_554 (hon 10 (by kernel_rfl)) (hon 11 (by kernel_rfl)))
                have GW553 := Aside0.mk (Q_GW553 (hon 10 (by kernel_rfl)))
                have GE553 := Aside0.mk (Q_GE553 (hon 10 (by kernel_rfl)))
                have NB531_553 := Aside0.mk (Q_NB531_553 (hon 10 (by kernel_rfl)))
                have NB553_531 := Aside0.mk (Q_NB553_531 (hon 10 (by kernel_rfl)))
                have NB532_553 := Aside0.mk (Q_NB532_553 (hon 10 (by kernel_rfl)))
                have NB553_532 := Aside0.mk (Q_NB553_532 (hon 10 (by kernel_rfl)))
                have NB533_553 := Aside0.mk (Q_NB533_553 (hon 10 (by kernel_rfl)))
                have NB553_533 := Aside0.mk (Q_NB553_533 (hon 10 (by kernel_rfl)))
                have BK554 := Aside0.mk (Q_BK554 (hon 11 (by kernel_rfl)) hb_)
                have GW554 := Aside0.mk (Q_GW554 (hon 11 (by kernel_rfl)))
                have GE554 := Aside0.mk (Q_GE554 (hon 11 (by kernel_rfl)))
                have NB531_554 := Aside0.mk (Q_NB531_554 (hon 11 (by kernel_rfl)))
                have NB554_531 := Aside0.mk (Q_NB554_531 (hon 11 (by kernel_rfl)))
                have NB532_554 := Aside0.mk (Q_NB532_554 (hon 11 (by kernel_rfl)))
                have NB554_532 := Aside0.mk (Q_NB554_532 (hon 11 (by kernel_rfl)))
                have NB533_554 := Aside0.mk (Q_NB533_554 (hon 11 (by kernel_rfl)))
                have NB554_533 := Aside0.mk (Q_NB554_533 (hon 11 (by kernel_rfl)))
                have BK553 := Aside0.mk (Q_BK553_e12 (hon 12 (by kernel_rfl)))
                have hs57 : w'.cell? ⟨gb554, 0, none⟩ = some (.int .i64 0) := (blk_cell BK554.out 0).trans rfl
                have hfs57 := blk_frozen BK554.out 0
                have hns57_0 := NB531_554.out
                have hns57_1 := NB532_554.out
                have hns57_2 := NB533_554.out
                have hns57_3 := NB553_554.out
                have hms57_0 := NB554_531.out
                have hms57_1 := NB554_532.out
                have hms57_2 := NB554_533.out
                have hms57_3 := NB554_553.out
                have hs58 : w'.cell? ⟨gb554, 1, none⟩ = some (.int .i64 0) := (blk_cell BK554.out 1).trans rfl
                have hfs58 := blk_frozen BK554.out 1
                have hns58_0 := NB531_554.out
                have hns58_1 := NB532_554.out
                have hns58_2 := NB533_554.out
                have hns58_3 := NB553_554.out
                have hms58_0 := NB554_531.out
                have hms58_1 := NB554_532.out
                have hms58_2 := NB554_533.out
                have hms58_3 := NB554_553.out
                refine skip_ (w1 := ?_) (by rfl) rfl ?_ ?_
                rotate_left
                · go_simp
                  rfl
                refine hK.out _ _ ⟨gb553, gb554, m10_, m11_, (by rw [ha.out]; exact putSel_none (v := undef) rfl), (by (with_reducible repeat (first | refine blk_drewN ?_ _ | refine blk_drew ?_ | refine blk_alloc ?_ _)); refine blk_far ?_ NB531_554.out _; (with_reducible repeat (first | refine blk_drewN ?_ _ | refine blk_drew ?_ | refine blk_alloc ?_ _)); refine blk_far ?_ NB531_554.out _; (with_reducible repeat (first | refine blk_drewN ?_ _ | refine blk_drew ?_ | refine blk_alloc ?_ _)); exact BK531.out), (by (with_reducible repeat (first | refine blk_drewN ?_ _ | refine blk_drew ?_ | refine blk_alloc ?_ _)); refine blk_far ?_ NB532_554.out _; (with_reducible repeat (first | refine blk_drewN ?_ _ | refine blk_drew ?_ | refine blk_alloc ?_ _)); refine blk_far ?_ NB532_554.out _; (with_reducible repeat (first | refine blk_drewN ?_ _ | refine blk_drew ?_ | refine blk_alloc ?_ _)); exact BK532.out), (by (with_reducible repeat (first | refine blk_drewN ?_ _ | refine blk_drew ?_ | refine blk_alloc ?_ _)); refine blk_far ?_ NB533_554.out _; (with_reducible repeat (first | refine blk_drewN ?_ _ | refine blk_drew ?_ | refine blk_alloc ?_ _)); refine blk_far ?_ NB533_554.out _; (with_reducible repeat (first | refine blk_drewN ?_ _ | refine blk_drew ?_ | refine blk_alloc ?_ _)); exact BK533.out), (by repeat (first | (with_reducible first | exact HB.out | apply below_alloc | apply pw_below_drewN | apply below_drew1 | refine below_set ?_ GE531.out | refine below_set ?_ GE532.out | refine below_set ?_ GE533.out | refine below_set ?_ GE553.out | refine below_set ?_ GE554.out) | exact HB.out)), fun _ _ => NB554_553.out, fun _ _ => NB553_554.out, fun _ h1_ => absurd ((hon 12 (by kernel_rfl)).symm.trans h1_) (by decide), fun _ => GW553.out, fun _ => GE553.out, fun _ => NB531_553.out, fun _ => NB553_531.out, fun _ => NB532_553.out, fun _ => NB553_532.out, fun _ => NB533_553.out, fun _ => NB553_533.out, fun _ h1_ => absurd ((up_self b 13).symm.trans h1_) (by decide), fun _ => GW554.out, fun _ => GE554.out, fun _ => NB531_554.out, fun _ => NB554_531.out, fun _ => NB532_554.out, fun _ => NB554_532.out, fun _ => NB533_554.out, fun _ => NB554_533.out, fun _ => (by (with_reducible repeat (first | refine blk_drewN ?_ _ | refine blk_drew ?_ | refine blk_alloc ?_ _)); refine blk_far ?_ NB553_554.out _; (with_reducible repeat (first | refine blk_drewN ?_ _ | refine blk_drew ?_ | refine blk_alloc ?_ _)); refine blk_far ?_ NB553_554.out _; (with_reducible repeat (first | refine blk_drewN ?_ _ | refine blk_drew ?_ | refine blk_alloc ?_ _)); exact BK553.out), fun _ => (by (with_reducible repeat (first | refine blk_drewN ?_ _ | refine blk_drew ?_ | refine blk_alloc ?_ _)); refine blk_put (cs := #[.int .i64 t551, .int .i64 0]) ?_ 1 _ rfl; (with_reducible repeat (first | refine blk_drewN ?_ _ | refine blk_drew ?_ | refine blk_alloc ?_ _)); refine blk_put (cs := #[.int .i64 0, .int .i64 0]) ?_ 0 _ rfl; (with_reducible repeat (first | refine blk_drewN ?_ _ | refine blk_drew ?_ | refine blk_alloc ?_ _)); exact BK554.out), Q_X10_, Q_X11_⟩
              exact steps_nil
            rintro b a w58 hall ⟨gb553, gb554, m10_, m11_, ha, Q_BK531, Q_BK532, Q_BK533, Q_HB, Q_NB554_553, Q_NB553_554, Q_BK553, Q_GW553, Q_GE553, Q_NB531_553, Q_NB553_531, Q_NB532_553, Q_NB553_532, Q_NB533_553, Q_NB553_533, Q_BK554, Q_GW554, Q_GE554, Q_NB531_554, Q_NB554_531, Q_NB532_554, Q_NB554_532, Q_NB533_554, Q_NB554_533, Q_BK553_e12, Q_BK554_e13, Q_X10_, Q_X11_⟩
            clear BK531 BK532 BK533 HB
            have hb0_ := hall 0 (by kernel_rfl)
            have hb1_ := hall 1 (by kernel_rfl)
            have hb2_ := hall 2 (by kernel_rfl)
            have hb3_ := hall 3 (by kernel_rfl)
            have hb4_ := hall 4 (by kernel_rfl)
            have hb5_ := hall 5 (by kernel_rfl)
            have hb6_ := hall 6 (by kernel_rfl)
            have hb7_ := hall 7 (by kernel_rfl)
            have hb8_ := hall 8 (by kernel_rfl)
            have hb9_ := hall 9 (by kernel_rfl)
            have hb10_ := hall 10 (by kernel_rfl)
            have hb11_ := hall 11 (by kernel_rfl)
            have hb12_ := hall 12 (by kernel_rfl)
            have hb13_ := hall 13 (by kernel_rfl)
            subst ha
            obtain rfl := Q_X10_ hb10_
            obtain rfl := Q_X11_ hb11_
            simp only [putSel, hb0_, hb1_, hb2_, hb3_, hb4_, hb5_, hb6_, hb7_, hb8_, hb9_, hb10_, hb11_, hb12_, hb13_, if_true, Act.put, List.setIfInBounds_toArray, List.set_cons_zero, List.set_cons_succ]
            have BK531 := Aside0.mk Q_BK531
            clear Q_BK531
            have BK532 := Aside0.mk Q_BK532
            clear Q_BK532
            have BK533 := Aside0.mk Q_BK533
            clear Q_BK533
            have HB := Aside0.mk Q_HB
            clear Q_HB
            have NB554_553 := Aside0.mk (Q_NB554_553 hb10_ hb11_)
            clear Q_NB554_553
            have NB553_554 := Aside0.mk (Q_NB553_554 hb10_ hb11_)
            clear Q_NB553_554
            clear Q_BK553
            have GW553 := Aside0.mk (Q_GW553 hb10_)
            clear Q_GW553
            have GE553 := Aside0.mk (Q_GE553 hb10_)
            clear Q_GE553
            have NB531_553 := Aside0.mk (Q_NB531_553 hb10_)
            clear Q_NB531_553
            have NB553_531 := Aside0.mk (Q_NB553_531 hb10_)
            clear Q_NB553_531
            have NB532_553 := Aside0.mk (Q_NB532_553 hb10_)
            clear Q_NB532_553
            have NB553_532 := Aside0.mk (Q_NB553_532 hb10_)
            clear Q_NB553_532
            have NB533_553 := Aside0.mk (Q_NB533_553 hb10_)
            clear Q_NB533_553
            have NB553_533 := Aside0.mk (Q_NB553_533 hb10_)
            clear Q_NB553_533
            clear Q_BK554
            have GW554 := Aside0.mk (Q_GW554 hb11_)
            clear Q_GW554
            have GE554 := Aside0.mk (Q_GE554 hb11_)
            clear Q_GE554
            have NB531_554 := Aside0.mk (Q_NB531_554 hb11_)
            clear Q_NB531_554
            have NB554_531 := Aside0.mk (Q_NB554_531 hb11_)
            clear Q_NB554_531
            have NB532_554 := Aside0.mk (Q_NB532_554 hb11_)
            clear Q_NB532_554
            have NB554_532 := Aside0.mk (Q_NB554_532 hb11_)
            clear Q_NB554_532
            have NB533_554 := Aside0.mk (Q_NB533_554 hb11_)
            clear Q_NB533_554
            have NB554_533 := Aside0.mk (Q_NB554_533 hb11_)
            clear Q_NB554_533
            have BK553 := Aside0.mk (Q_BK553_e12 hb12_)
            clear Q_BK553_e12
            have BK554 := Aside0.mk (Q_BK554_e13 hb13_)
            clear Q_BK554_e13
            clear hall hb0_ hb1_ hb2_ hb3_ hb4_ hb5_ hb6_ hb7_ hb8_ hb9_ hb10_ hb11_ hb12_ hb13_
            have hnb59 := NB553_531.out
            have hnc59 := NB531_553.out
            have hnb60 := NB553_532.out
            have hnc60 := NB532_553.out
            have hnb61 := NB553_533.out
            have hnc61 := NB533_553.out
            have hnb62 := NB553_554.out
            have hnc62 := NB554_553.out
            have hcz63_0 : w58.cell? ⟨gb553, 0, none⟩ = some (.int .i64 t547) := (blk_cell BK553.out 0).trans rfl
            have hcz63_1 : w58.cell? ⟨gb553, 1, none⟩ = some (.int .i64 t548) := (blk_cell BK553.out 1).trans rfl
            have hfz63_0 := blk_frozen BK553.out 0
            have hfz63_1 := blk_frozen BK553.out 1
            have hnb64 := NB554_531.out
            have hnc64 := NB531_554.out
            have hnb65 := NB554_532.out
            have hnc65 := NB532_554.out
            have hnb66 := NB554_533.out
            have hnc66 := NB533_554.out
            have hcz67_0 : w58.cell? ⟨gb554, 0, none⟩ = some (.int .i64 t551) := (blk_cell BK554.out 0).trans rfl
            have hcz67_1 : w58.cell? ⟨gb554, 1, none⟩ = some (.int .i64 t552) := (blk_cell BK554.out 1).trans rfl
            have hfz67_0 := blk_frozen BK554.out 0
            have hfz67_1 := blk_frozen BK554.out 1
            try go_wp2_with (first | ((with_reducible refine gate_dst (N := 45) rfl ?_); (try (refine gate_grd (by rfl) ?_; dsimp only)); refine Kd.R_lit (Kd.int .i64) _ 3 ?hg (N := 45) ?hd (xs := ([t547, t548, t551, t552] : List Int)) (inner := [.int .i64 t547, .int .i64 t548, .int .i64 t551, .int .i64 t552]) (ok := fun _ => True) (okp := fun _ => True) ?hr ?hp (fun _ hk => hk) trivial (Below.refl _ _) (Nat.le_refl _) (by simp) ?_; (case hd => rfl); (case hg => rfl); (case hr => first | (go_simp; done) | (go_simp; rfl)); (case hp => exact (Reps.one (show Kd.M (Kd.int .i64) _ _ _ t547 [.int .i64 t547] from rfl) (Reps.one (show Kd.M (Kd.int .i64) _ _ _ t548 [.int .i64 t548] from rfl) (Reps.one (show Kd.M (Kd.int .i64) _ _ _ t551 [.int .i64 t551] from rfl) (Reps.one (show Kd.M (Kd.int .i64) _ _ _ t552 [.int .i64 t552] from rfl) (Reps.none _ _)))))); intro v556 w68 ho69 hb hg_ hnew_; clear hg_ hnew_; (first | rw [← Ny555.out] at ho69 | (simp only [Int.reduceToNat] at ho69; rw [← Ny555.out] at ho69)); have n0_ := Aside0.mk (Kd.R_lower ho69 (below_size (by repeat (first | (with_reducible first | exact HB.out | apply below_alloc | apply pw_below_drewN | apply below_drew1 | refine below_set ?_ GE531.out | refine below_set ?_ GE532.out | refine below_set ?_ GE533.out | refine below_set ?_ GE553.out | refine below_set ?_ GE554.out) | exact HB.out)))); have n1_ := Aside0.mk (blk_below (g := gb531) (o := .cells #[.int .i64 a0_0, .int .i64 a0_1, .int .i64 a0_2, .int .i64 a0_3, .int .i64 a0_4, .int .i64 a0_5] 23 (0, 0)) (by (with_reducible repeat (first | refine blk_drewN ?_ _ | refine blk_drew ?_ | refine blk_alloc ?_ _)); exact BK531.out) hb); have n2_ := Aside0.mk (blk_below (g := gb532) (o := .cells #[.int .i64 a1_0, .int .i64 a1_1, .int .i64 a1_2, .int .i64 a1_3, .int .i64 a1_4, .int .i64 a1_5] 23 (0, 0)) (by (with_reducible repeat (first | refine blk_drewN ?_ _ | refine blk_drew ?_ | refine blk_alloc ?_ _)); exact BK532.out) hb); have n3_ := Aside0.mk (blk_below (g := gb533) (o := .cells #[.int .i64 a2_0, .int .i64 a2_1] 25 (0, 0)) (by (with_reducible repeat (first | refine blk_drewN ?_ _ | refine blk_drew ?_ | refine blk_alloc ?_ _)); exact BK533.out) hb); have n4_ := Aside0.mk (blk_below (g := gb553) (o := .cells #[.int .i64 t547, .int .i64 t548] 25 (0, 0)) (by (with_reducible repeat (first | refine blk_drewN ?_ _ | refine blk_drew ?_ | refine blk_alloc ?_ _)); exact BK553.out) hb); have n5_ := Aside0.mk (blk_below (g := gb554) (o := .cells #[.int .i64 t551, .int .i64 t552] 25 (0, 0)) (by (with_reducible repeat (first | refine blk_drewN ?_ _ | refine blk_drew ?_ | refine blk_alloc ?_ _)); exact BK554.out) hb); have n6_ := Aside0.mk (below_step (by repeat (first | (with_reducible first | exact HB.out | apply below_alloc | apply pw_below_drewN | apply below_drew1 | refine below_set ?_ GE531.out | refine below_set ?_ GE532.out | refine below_set ?_ GE533.out | refine below_set ?_ GE553.out | refine below_set ?_ GE554.out) | exact HB.out)) hb); clear BK531; clear BK532; clear BK533; clear BK553; clear BK554; clear HB; have HO557 := n0_; have BK531 := n1_; have BK532 := n2_; have BK533 := n3_; have BK553 := n4_; have BK554 := n5_; have HB := n6_; clear n0_ n1_ n2_ n3_ n4_ n5_ n6_; clear hb ho69; obtain ⟨Ao70, co70, eo70⟩ := Kd.R_slice HO557.out; subst eo70) | ((with_reducible refine gate_callee (f := 25) rfl ?_); refine goesL_ (some 46) rfl rfl Try.func25 (by kernel_rfl) rfl #[.int .i64 1099511627776, .slice Ao70 y555.length co70] rfl (by (try simp only [List.map_toArray, List.map_cons, List.map_nil]); first | done | rfl | (simp only [List.length_drop, List.length_take]; rfl)) ?_; (with_reducible refine (imageeditorlaw12_within.calls kj3 1099511627776 _ _ y555 true _ ?side1 ?side2 A42.out).mono ?_); (case side1 => repeat (first | exact (Kd.R_reads' HO557.out).2.2 | (with_reducible refine Kd.C_alloc ?_ _) | (with_reducible refine Kd.C_drewN ?_ _) | (with_reducible refine Kd.C_drew ?_))); (case side2 => exact (Kd.R_reads' HO557.out).2.1); rintro e w' ⟨rfl, ⟨nd, rfl⟩⟩; refine ⟨_, rfl, ?_⟩; have hcz71_0 : w68.cell? ⟨gb553, 0, none⟩ = some (.int .i64 t547) := (blk_cell BK553.out 0).trans rfl; have hcz71_1 : w68.cell? ⟨gb553, 1, none⟩ = some (.int .i64 t548) := (blk_cell BK553.out 1).trans rfl; have hfz71_0 := blk_frozen BK553.out 0; have hfz71_1 := blk_frozen BK553.out 1; have hcz72_0 : w68.cell? ⟨gb554, 0, none⟩ = some (.int .i64 t551) := (blk_cell BK554.out 0).trans rfl; have hcz72_1 : w68.cell? ⟨gb554, 1, none⟩ = some (.int .i64 t552) := (blk_cell BK554.out 1).trans rfl; have hfz72_0 := blk_frozen BK554.out 0; have hfz72_1 := blk_frozen BK554.out 1) | ((with_reducible refine gate_dst (N := 58) rfl ?_); (try (refine gate_grd (by rfl) ?_; dsimp only)); refine Kd.R_lit (Kd.int .i64) _ 3 ?hg (N := 58) ?hd (xs := ([wrap64 (t547 - t551), wrap64 (t548 - t552)] : List Int)) (inner := [.int .i64 (wrap64 (t547 - t551)), .int .i64 (wrap64 (t548 - t552))]) (ok := fun _ => True) (okp := fun _ => True) ?hr ?hp (fun _ hk => hk) trivial (Below.refl _ _) (Nat.le_refl _) (by simp) ?_; (case hd => rfl); (case hg => rfl); (case hr => first | (go_simp; done) | (go_simp; rfl)); (case hp => exact (Reps.one (show Kd.M (Kd.int .i64) _ _ _ (wrap64 (t547 - t551)) [.int .i64 (wrap64 (t547 - t551))] from rfl) (Reps.one (show Kd.M (Kd.int .i64) _ _ _ (wrap64 (t548 - t552)) [.int .i64 (wrap64 (t548 - t552))] from rfl) (Reps.none _ _)))); intro v560 w73 ho74 hb hg_ hnew_; clear hg_ hnew_; (first | rw [← Ny559.out] at ho74 | (simp only [Int.reduceToNat] at ho74; rw [← Ny559.out] at ho74)); have n0_ := Aside0.mk (Kd.R_elder' (by (with_reducible repeat (first | apply Kd.R_alloc | apply Kd.R_drewN | apply Kd.R_drew)); exact HO557.out) (Kd.R_base ho74) hb); have n1_ := Aside0.mk (Kd.R_lower (Kd.R_new' ho74 (Kd.R_lt (by (with_reducible repeat (first | apply Kd.R_alloc | apply Kd.R_drewN | apply Kd.R_drew)); exact HO557.out))) (below_size (by repeat (first | (with_reducible first | exact HB.out | apply below_alloc | apply pw_below_drewN | apply below_drew1 | refine below_set ?_ GE531.out | refine below_set ?_ GE532.out | refine below_set ?_ GE533.out | refine below_set ?_ GE553.out | refine below_set ?_ GE554.out) | exact HB.out)))); have n2_ := Aside0.mk (blk_below (g := gb531) (o := .cells #[.int .i64 a0_0, .int .i64 a0_1, .int .i64 a0_2, .int .i64 a0_3, .int .i64 a0_4, .int .i64 a0_5] 23 (0, 0)) (by (with_reducible repeat (first | refine blk_drewN ?_ _ | refine blk_drew ?_ | refine blk_alloc ?_ _)); exact BK531.out) hb); have n3_ := Aside0.mk (blk_below (g := gb532) (o := .cells #[.int .i64 a1_0, .int .i64 a1_1, .int .i64 a1_2, .int .i64 a1_3, .int .i64 a1_4, .int .i64 a1_5] 23 (0, 0)) (by (with_reducible repeat (first | refine blk_drewN ?_ _ | refine blk_drew ?_ | refine blk_alloc ?_ _)); exact BK532.out) hb); have n4_ := Aside0.mk (blk_below (g := gb533) (o := .cells #[.int .i64 a2_0, .int .i64 a2_1] 25 (0, 0)) (by (with_reducible repeat (first | refine blk_drewN ?_ _ | refine blk_drew ?_ | refine blk_alloc ?_ _)); exact BK533.out) hb); have n5_ := Aside0.mk (blk_below (g := gb553) (o := .cells #[.int .i64 t547, .int .i64 t548] 25 (0, 0)) (by (with_reducible repeat (first | refine blk_drewN ?_ _ | refine blk_drew ?_ | refine blk_alloc ?_ _)); exact BK553.out) hb); have n6_ := Aside0.mk (blk_below (g := gb554) (o := .cells #[.int .i64 t551, .int .i64 t552] 25 (0, 0)) (by (with_reducible repeat (first | refine blk_drewN ?_ _ | refine blk_drew ?_ | refine blk_alloc ?_ _)); exact BK554.out) hb); have n7_ := Aside0.mk (below_step (by repeat (first | (with_reducible first | exact HB.out | apply below_alloc | apply pw_below_drewN | apply below_drew1 | refine below_set ?_ GE531.out | refine below_set ?_ GE532.out | refine below_set ?_ GE533.out | refine below_set ?_ GE553.out | refine below_set ?_ GE554.out) | exact HB.out)) hb); clear HO557; clear BK531; clear BK532; clear BK533; clear BK553; clear BK554; clear HB; have HO557 := n0_; have HO561 := n1_; have BK531 := n2_; have BK532 := n3_; have BK533 := n4_; have BK553 := n5_; have BK554 := n6_; have HB := n7_; clear n0_ n1_ n2_ n3_ n4_ n5_ n6_ n7_; clear hb ho74; obtain ⟨Ao75, co75, eo75⟩ := Kd.R_slice HO561.out; subst eo75) | (go_at_call 25; (with_reducible refine (imageeditorlaw12_within.calls kj3 262 _ _ y559 true _ ?side1 ?side2 A44.out).mono ?_); (case side1 => repeat (first | exact (Kd.R_reads' HO561.out).2.2 | (with_reducible refine Kd.C_alloc ?_ _) | (with_reducible refine Kd.C_drewN ?_ _) | (with_reducible refine Kd.C_drew ?_))); (case side2 => exact (Kd.R_reads' HO561.out).2.1); rintro e w' ⟨rfl, ⟨nd, rfl⟩⟩) | (go_at_call 14; (with_reducible refine (imageeditorlaw12_awake.calls kj3  t563 _ A46.out).mono ?_); rintro e w76 ⟨rfl, hb⟩; have n0_ := Aside0.mk (Kd.R_below (by (with_reducible repeat (first | apply Kd.R_alloc | apply Kd.R_drewN | apply Kd.R_drew)); exact HO557.out) hb); have n1_ := Aside0.mk (Kd.R_below (by (with_reducible repeat (first | apply Kd.R_alloc | apply Kd.R_drewN | apply Kd.R_drew)); exact HO561.out) hb); have n2_ := Aside0.mk (blk_below (g := gb531) (o := .cells #[.int .i64 a0_0, .int .i64 a0_1, .int .i64 a0_2, .int .i64 a0_3, .int .i64 a0_4, .int .i64 a0_5] 23 (0, 0)) (by (with_reducible repeat (first | refine blk_drewN ?_ _ | refine blk_drew ?_ | refine blk_alloc ?_ _)); exact BK531.out) hb); have n3_ := Aside0.mk (blk_below (g := gb532) (o := .cells #[.int .i64 a1_0, .int .i64 a1_1, .int .i64 a1_2, .int .i64 a1_3, .int .i64 a1_4, .int .i64 a1_5] 23 (0, 0)) (by (with_reducible repeat (first | refine blk_drewN ?_ _ | refine blk_drew ?_ | refine blk_alloc ?_ _)); exact BK532.out) hb); have n4_ := Aside0.mk (blk_below (g := gb533) (o := .cells #[.int .i64 a2_0, .int .i64 a2_1] 25 (0, 0)) (by (with_reducible repeat (first | refine blk_drewN ?_ _ | refine blk_drew ?_ | refine blk_alloc ?_ _)); exact BK533.out) hb); have n5_ := Aside0.mk (blk_below (g := gb553) (o := .cells #[.int .i64 t547, .int .i64 t548] 25 (0, 0)) (by (with_reducible repeat (first | refine blk_drewN ?_ _ | refine blk_drew ?_ | refine blk_alloc ?_ _)); exact BK553.out) hb); have n6_ := Aside0.mk (blk_below (g := gb554) (o := .cells #[.int .i64 t551, .int .i64 t552] 25 (0, 0)) (by (with_reducible repeat (first | refine blk_drewN ?_ _ | refine blk_drew ?_ | refine blk_alloc ?_ _)); exact BK554.out) hb); have n7_ := Aside0.mk (below_step (by repeat (first | (with_reducible first | exact HB.out | apply below_alloc | apply pw_below_drewN | apply below_drew1 | refine below_set ?_ GE531.out | refine below_set ?_ GE532.out | refine below_set ?_ GE533.out | refine below_set ?_ GE553.out | refine below_set ?_ GE554.out) | exact HB.out)) hb); clear HO557; clear HO561; clear BK531; clear BK532; clear BK533; clear BK553; clear BK554; clear HB; have HO557 := n0_; have HO561 := n1_; have BK531 := n2_; have BK532 := n3_; have BK533 := n4_; have BK553 := n5_; have BK554 := n6_; have HB := n7_; clear n0_ n1_ n2_ n3_ n4_ n5_ n6_ n7_; (try clear hb); (try clear hb2); (try clear hk); (try clear hi)))
            go_ret
            exact ⟨by first | rfl | (simp [errW_none, errW_some] <;> rfl) | (simp [*, errW_none, errW_some] <;> rfl), by repeat (first | (with_reducible first | exact HB.out | apply below_alloc | apply pw_below_drewN | apply below_drew1 | refine below_set ?_ GE531.out | refine below_set ?_ GE532.out | refine below_set ?_ GE533.out | refine below_set ?_ GE553.out | refine below_set ?_ GE554.out) | exact HB.out)⟩
          · replace c45 := Bool.eq_false_iff.mpr c45
            subst c45
            have H1 : (none) = some r := by rw [if_neg (show ¬ (false = true) by decide)] at H; exact H
            clear H
            have H := H1
            clear H1
            exact absurd H (by simp)
        · replace c43 := Bool.eq_false_iff.mpr c43
          subst c43
          have H1 : (none) = some r := by rw [if_neg (show ¬ (false = true) by decide)] at H; exact H
          clear H
          have H := H1
          clear H1
          exact absurd H (by simp)


end Go.Proofs.Ytgciphmmfbgkeaa.Q
