/- Each Go function of the law as a Lean function, with the proof that its call comes to just that, for every input; written by hp.py, a program of this session over the kit own print of the translation. -/
import Derived.Test.YtgciphmmfbgkeaaGg
import Derived.Test.YtgciphmmfbgkeaaQ0
import Derived.Test.YtgciphmmfbgkeaaQ6
import Derived.Test.YtgciphmmfbgkeaaQ9
import Derived.Test.YtgciphmmfbgkeaaQ12
import Derived.Test.YtgciphmmfbgkeaaQ15
import Derived.Test.YtgciphmmfbgkeaaQ17
namespace Go.Proofs.Ytgciphmmfbgkeaa.Q
open Go.RowKit Go.Proofs.YtgciphmmfbgkeaaW.PrintWords Go.Proofs.YtgciphmmfbgkeaaW.PrintLast Go.Proofs.YtgciphmmfbgkeaaW.PrintMore
attribute [local go_sem] max2_int min2_int max_two min_two max_three min_three max_four min_four   -- for this text's walks alone
set_option linter.unusedVariables false
set_option linter.unusedSimpArgs false
open Go.Proofs.Ytgciphmmfbgkeaa.Clo Go.Proofs.Ytgciphmmfbgkeaa.Sin0

/-! ### imageeditorlaw12_AffineReturns: function 8 -/
mutual
def imageeditorlaw12_AffineReturns.j0 : Nat → Bool → Int → Int → Int → Int → Int → Int → Int → Int → Option (Bool)
  | 0, _, _, _, _, _, _, _, _, _ => none
  | k + 1, x20, x565000, x565001, x565002, x565003, x565004, x565005, x566000, x566001 => if x20 = true then ((imageeditorlaw12_awake.f k).bind fun t571 => (some t571)) else (if (wrap64 ((wrap64 (x565000 * x565003)) - (wrap64 (x565001 * x565002)))) < 1073741824 then (imageeditorlaw12_AffineReturns.j1 k (decide ((wrap64 ((wrap64 (x565000 * x565003)) - (wrap64 (x565001 * x565002)))) > (-1073741824))) x565000 x565001 x565002 x565003 x565004 x565005 x566000 x566001) else (imageeditorlaw12_AffineReturns.j1 k false x565000 x565001 x565002 x565003 x565004 x565005 x566000 x566001))
def imageeditorlaw12_AffineReturns.j1 : Nat → Bool → Int → Int → Int → Int → Int → Int → Int → Int → Option (Bool)
  | 0, _, _, _, _, _, _, _, _, _ => none
  | k + 1, x38, x565000, x565001, x565002, x565003, x565004, x565005, x566000, x566001 => if x38 = true then ((imageeditorlaw12_awake.f k).bind fun t572 => (some t572)) else ((affine_Inverse.f k x565000 x565001 x565002 x565003 x565004 x565005).bind fun bt573 => ((affine_Apply.f k x565000 x565001 x565002 x565003 x565004 x565005 x566000 x566001).bind fun bt581 => ((affine_Apply.f k bt573.1 bt573.2.1 bt573.2.2.1 bt573.2.2.2.1 bt573.2.2.2.2.1 bt573.2.2.2.2.2.1 bt581.1 bt581.2).bind fun bt583 => (if bt573.2.2.2.2.2.2 = 0 then ((imageeditorlaw12_within.f k 1099511627776 (([bt583.1, bt583.2] : List Int))).bind fun t589 => (if t589 = true then ((imageeditorlaw12_within.f k 4096 (([wrap64 (bt583.1 - x566000), wrap64 (bt583.2 - x566001)] : List Int))).bind fun t593 => (if t593 = true then ((imageeditorlaw12_awake.f k).bind fun t594 => (some t594)) else (none))) else (none))) else (none)))))
end
def imageeditorlaw12_AffineReturns.f (k : Nat) (a0_0 : Int) (a0_1 : Int) (a0_2 : Int) (a0_3 : Int) (a0_4 : Int) (a0_5 : Int) (a1_0 : Int) (a1_1 : Int) : Option (Bool) := (imageeditorlaw12_small.f k a0_0 a0_1 a0_2 a0_3 a0_4 a0_5 16777216).bind fun t566 => (if t566 = true then ((imageeditorlaw12_within.f k 16777216 (([a1_0, a1_1] : List Int))).bind fun t570 => (imageeditorlaw12_AffineReturns.j0 k (!t570) a0_0 a0_1 a0_2 a0_3 a0_4 a0_5 a1_0 a1_1)) else (imageeditorlaw12_AffineReturns.j0 k true a0_0 a0_1 a0_2 a0_3 a0_4 a0_5 a1_0 a1_1))
theorem imageeditorlaw12_AffineReturns.mono_l : ∀ k, (∀ y0 y1 y2 y3 y4 y5 y6 y7 y8, LeO (imageeditorlaw12_AffineReturns.j0 k y0 y1 y2 y3 y4 y5 y6 y7 y8) (imageeditorlaw12_AffineReturns.j0 (k + 1) y0 y1 y2 y3 y4 y5 y6 y7 y8)) ∧ (∀ y0 y1 y2 y3 y4 y5 y6 y7 y8, LeO (imageeditorlaw12_AffineReturns.j1 k y0 y1 y2 y3 y4 y5 y6 y7 y8) (imageeditorlaw12_AffineReturns.j1 (k + 1) y0 y1 y2 y3 y4 y5 y6 y7 y8))
  | 0 => ⟨fun _ _ _ _ _ _ _ _ _ r h => by simp [imageeditorlaw12_AffineReturns.j0] at h, fun _ _ _ _ _ _ _ _ _ r h => by simp [imageeditorlaw12_AffineReturns.j1] at h⟩
  | k + 1 => by
    obtain ⟨ih0, ih1⟩ := imageeditorlaw12_AffineReturns.mono_l k
    refine ⟨?_, ?_⟩
    · intro y0 y1 y2 y3 y4 y5 y6 y7 y8
      unfold imageeditorlaw12_AffineReturns.j0
      repeat' first
      | (with_reducible exact ih0 _ _ _ _ _ _ _ _ _)
      | (with_reducible exact ih1 _ _ _ _ _ _ _ _ _)
      | (with_reducible exact affine_Apply.mono _ _ _ _ _ _ _ _ _)
      | (with_reducible exact affine_Inverse.mono _ _ _ _ _ _ _)
      | (with_reducible exact imageeditorlaw12_awake.mono _)
      | (with_reducible exact imageeditorlaw12_small.mono _ _ _ _ _ _ _ _)
      | (with_reducible exact imageeditorlaw12_within.mono _ _ _)
      | (with_reducible exact LeO.refl _)
      | (with_reducible exact LeO.none _)
      | (with_reducible refine LeO.ite ?_ ?_)
      | (with_reducible refine LeO.bind ?_ (fun _ => ?_))
      | exact ih0 _ _ _ _ _ _ _ _ _
      | exact ih1 _ _ _ _ _ _ _ _ _
      | exact affine_Apply.mono _ _ _ _ _ _ _ _ _
      | exact affine_Inverse.mono _ _ _ _ _ _ _
      | exact imageeditorlaw12_awake.mono _
      | exact imageeditorlaw12_small.mono _ _ _ _ _ _ _ _
      | exact imageeditorlaw12_within.mono _ _ _
      | exact LeO.none _
      | refine LeO.ite ?_ ?_
      | refine LeO.bind ?_ (fun _ => ?_)
    · intro y0 y1 y2 y3 y4 y5 y6 y7 y8
      unfold imageeditorlaw12_AffineReturns.j1
      repeat' first
      | (with_reducible exact ih0 _ _ _ _ _ _ _ _ _)
      | (with_reducible exact ih1 _ _ _ _ _ _ _ _ _)
      | (with_reducible exact affine_Apply.mono _ _ _ _ _ _ _ _ _)
      | (with_reducible exact affine_Inverse.mono _ _ _ _ _ _ _)
      | (with_reducible exact imageeditorlaw12_awake.mono _)
      | (with_reducible exact imageeditorlaw12_small.mono _ _ _ _ _ _ _ _)
      | (with_reducible exact imageeditorlaw12_within.mono _ _ _)
      | (with_reducible exact LeO.refl _)
      | (with_reducible exact LeO.none _)
      | (with_reducible refine LeO.ite ?_ ?_)
      | (with_reducible refine LeO.bind ?_ (fun _ => ?_))
      | exact ih0 _ _ _ _ _ _ _ _ _
      | exact ih1 _ _ _ _ _ _ _ _ _
      | exact affine_Apply.mono _ _ _ _ _ _ _ _ _
      | exact affine_Inverse.mono _ _ _ _ _ _ _
      | exact imageeditorlaw12_awake.mono _
      | exact imageeditorlaw12_small.mono _ _ _ _ _ _ _ _
      | exact imageeditorlaw12_within.mono _ _ _
      | exact LeO.none _
      | refine LeO.ite ?_ ?_
      | refine LeO.bind ?_ (fun _ => ?_)
theorem imageeditorlaw12_AffineReturns.mono : ∀ a0 a1 a2 a3 a4 a5 a6 a7 k, LeO (imageeditorlaw12_AffineReturns.f k a0 a1 a2 a3 a4 a5 a6 a7) (imageeditorlaw12_AffineReturns.f (k + 1) a0 a1 a2 a3 a4 a5 a6 a7) := by
  intro a0 a1 a2 a3 a4 a5 a6 a7 k
  obtain ⟨ih0, ih1⟩ := imageeditorlaw12_AffineReturns.mono_l k
  unfold imageeditorlaw12_AffineReturns.f
  repeat' first
      | (with_reducible exact ih0 _ _ _ _ _ _ _ _ _)
      | (with_reducible exact ih1 _ _ _ _ _ _ _ _ _)
      | (with_reducible exact affine_Apply.mono _ _ _ _ _ _ _ _ _)
      | (with_reducible exact affine_Inverse.mono _ _ _ _ _ _ _)
      | (with_reducible exact imageeditorlaw12_awake.mono _)
      | (with_reducible exact imageeditorlaw12_small.mono _ _ _ _ _ _ _ _)
      | (with_reducible exact imageeditorlaw12_within.mono _ _ _)
      | (with_reducible exact LeO.refl _)
      | (with_reducible exact LeO.none _)
      | (with_reducible refine LeO.ite ?_ ?_)
      | (with_reducible refine LeO.bind ?_ (fun _ => ?_))
      | exact ih0 _ _ _ _ _ _ _ _ _
      | exact ih1 _ _ _ _ _ _ _ _ _
      | exact affine_Apply.mono _ _ _ _ _ _ _ _ _
      | exact affine_Inverse.mono _ _ _ _ _ _ _
      | exact imageeditorlaw12_awake.mono _
      | exact imageeditorlaw12_small.mono _ _ _ _ _ _ _ _
      | exact imageeditorlaw12_within.mono _ _ _
      | exact LeO.none _
      | refine LeO.ite ?_ ?_
      | refine LeO.bind ?_ (fun _ => ?_)
def imageeditorlaw12_AffineReturns.T7 : Bool × List (List Nat × List Nat) := (true, [([], []), ([], []), ([], []), ([1, 2], [1, 2]), ([0, 3, 3], [0, 3]), ([], []), ([5, 4, 4, 0, 1, 2, 3, 4, 5], [4, 5])])
def imageeditorlaw12_AffineReturns.B7 : List Nat := [0, 0, 0, 6, 15, 0, 63]
theorem imageeditorlaw12_AffineReturns.tab7 : rtab .any (opsOf Try.f8 7) = imageeditorlaw12_AffineReturns.T7 := by kernel_rfl
theorem imageeditorlaw12_AffineReturns.bits7 : waitsOk imageeditorlaw12_AffineReturns.T7.2 imageeditorlaw12_AffineReturns.B7 = true := by kernel_rfl
set_option maxHeartbeats 8000000 in
set_option maxRecDepth 100000 in
theorem imageeditorlaw12_AffineReturns.calls (k : Nat) (a0_0 : Int) (a0_1 : Int) (a0_2 : Int) (a0_3 : Int) (a0_4 : Int) (a0_5 : Int) (a1_0 : Int) (a1_1 : Int) (r : Bool) (w : World) (h : imageeditorlaw12_AffineReturns.f k a0_0 a0_1 a0_2 a0_3 a0_4 a0_5 a1_0 a1_1 = some r) :
    Calls Try.prog 8 #[.agg #[.int .i64 a0_0, .int .i64 a0_1, .int .i64 a0_2, .int .i64 a0_3, .int .i64 a0_4, .int .i64 a0_5], .agg #[.int .i64 a1_0, .int .i64 a1_1]] w fun e w' => e = .returned (.bool r) ∧ Below w.heap.size w w' := by
  have hu23 := Try.underlying23
  have hu25 := Try.underlying25
  have HB := Aside0.mk (Below.refl w.heap.size w)
  have H : ((imageeditorlaw12_small.f k a0_0 a0_1 a0_2 a0_3 a0_4 a0_5 16777216).bind fun t566 => (if t566 = true then ((imageeditorlaw12_within.f k 16777216 (([a1_0, a1_1] : List Int))).bind fun t570 => (imageeditorlaw12_AffineReturns.j0 k (!t570) a0_0 a0_1 a0_2 a0_3 a0_4 a0_5 a1_0 a1_1)) else (imageeditorlaw12_AffineReturns.j0 k true a0_0 a0_1 a0_2 a0_3 a0_4 a0_5 a1_0 a1_1))) = some r := h
  clear h
  have HC3 := Aside0.mk H
  clear H
  go_enter Try.func8, Try.ntmps8
  go_upto_region 1 with (first | ((with_reducible refine gate_dst (N := 2) rfl ?_); (try (refine gate_grd (by rfl) ?_; dsimp only)); refine box_event ?hg (N := 2) ?hd (cs := #[.int .i64 a0_0, .int .i64 a0_1, .int .i64 a0_2, .int .i64 a0_3, .int .i64 a0_4, .int .i64 a0_5]) (t := 23) ?hr ?_; (case hd => rfl); (case hg => rfl); (case hr => first | (go_simp; done) | (go_simp; rfl)); intro gb564 hg w4 hbox hb; have n0_ := Aside0.mk (below_step (by repeat (first | (with_reducible first | exact HB.out | apply below_alloc | apply pw_below_drewN | apply below_drew1) | exact HB.out)) hb); have n1_ := Aside0.mk (hbox); have n2_ := Aside0.mk ((by rw [hg]; exact (below_size (by repeat (first | (with_reducible first | exact HB.out | apply below_alloc | apply pw_below_drewN | apply below_drew1) | exact HB.out))) : w.heap.size ≤ gb564)); have n3_ := Aside0.mk ((by rw [hg]; exact (below_size (by repeat (first | (with_reducible first | exact HB.out | apply below_alloc | apply pw_below_drewN | apply below_drew1) | exact HB.out))) : w.heap.size ≤ gb564)); clear HB; have HB := n0_; have BK564 := n1_; have GW564 := n2_; have GE564 := n3_; clear n0_ n1_ n2_ n3_; clear hb hbox hg) | ((with_reducible refine gate_dst (N := 3) rfl ?_); (try (refine gate_grd (by rfl) ?_; dsimp only)); refine box_event ?hg (N := 3) ?hd (cs := #[.int .i64 a1_0, .int .i64 a1_1]) (t := 25) ?hr ?_; (case hd => rfl); (case hg => rfl); (case hr => first | (go_simp; done) | (go_simp; rfl)); intro gb565 hg w5 hbox hb; have n0_ := Aside0.mk (blk_below (g := gb564) (o := .cells #[.int .i64 a0_0, .int .i64 a0_1, .int .i64 a0_2, .int .i64 a0_3, .int .i64 a0_4, .int .i64 a0_5] 23 (0, 0)) (by (with_reducible repeat (first | refine blk_drewN ?_ _ | refine blk_drew ?_ | refine blk_alloc ?_ _)); exact BK564.out) hb); have n1_ := Aside0.mk (below_step (by repeat (first | (with_reducible first | exact HB.out | apply below_alloc | apply pw_below_drewN | apply below_drew1 | refine below_set ?_ GE564.out) | exact HB.out)) hb); have n2_ := Aside0.mk (hbox); have n3_ := Aside0.mk ((by rw [hg]; exact (below_size (by repeat (first | (with_reducible first | exact HB.out | apply below_alloc | apply pw_below_drewN | apply below_drew1 | refine below_set ?_ GE564.out) | exact HB.out))) : w.heap.size ≤ gb565)); have n4_ := Aside0.mk ((by rw [hg]; exact (below_size (by repeat (first | (with_reducible first | exact HB.out | apply below_alloc | apply pw_below_drewN | apply below_drew1 | refine below_set ?_ GE564.out) | exact HB.out))) : w.heap.size ≤ gb565)); have n5_ := Aside0.mk ((by rw [hg]; exact Nat.ne_of_lt (blk_lt (g := gb564) (o := .cells #[.int .i64 a0_0, .int .i64 a0_1, .int .i64 a0_2, .int .i64 a0_3, .int .i64 a0_4, .int .i64 a0_5] 23 (0, 0)) (by (with_reducible repeat (first | refine blk_drewN ?_ _ | refine blk_drew ?_ | refine blk_alloc ?_ _)); exact BK564.out)) : gb564 ≠ gb565)); have n6_ := Aside0.mk ((by rw [hg]; exact Nat.ne_of_gt (blk_lt (g := gb564) (o := .cells #[.int .i64 a0_0, .int .i64 a0_1, .int .i64 a0_2, .int .i64 a0_3, .int .i64 a0_4, .int .i64 a0_5] 23 (0, 0)) (by (with_reducible repeat (first | refine blk_drewN ?_ _ | refine blk_drew ?_ | refine blk_alloc ?_ _)); exact BK564.out)) : gb565 ≠ gb564)); clear BK564; clear HB; have BK564 := n0_; have HB := n1_; have BK565 := n2_; have GW565 := n3_; have GE565 := n4_; have NB564_565 := n5_; have NB565_564 := n6_; clear n0_ n1_ n2_ n3_ n4_ n5_ n6_; clear hb hbox hg))
  (try simp only [Act.put, List.setIfInBounds_toArray, List.set_cons_zero, List.set_cons_succ])
  go_cut [20] (fun v20 wc => ∃ (kq : Nat) (x20_2 : Bool), v20 = .bool x20_2 ∧ Aside0 (imageeditorlaw12_AffineReturns.j0 kq x20_2 a0_0 a0_1 a0_2 a0_3 a0_4 a0_5 a1_0 a1_1 = some r) ∧ Aside0 (kq ≤ k) ∧ Aside0 (wc.heap[gb564]? = some (.cells #[.int .i64 a0_0, .int .i64 a0_1, .int .i64 a0_2, .int .i64 a0_3, .int .i64 a0_4, .int .i64 a0_5] 23 (0, 0))) ∧ Aside0 (wc.heap[gb565]? = some (.cells #[.int .i64 a1_0, .int .i64 a1_1] 25 (0, 0))) ∧ Aside0 (Below w.heap.size w wc))
  case first =>
    have H := HC3.out
    clear HC3
    replace H := Option.bind_eq_some_iff.mp H
    obtain ⟨t566, A60, H⟩ := H
    replace H : (if t566 = true then ((imageeditorlaw12_within.f k 16777216 (([a1_0, a1_1] : List Int))).bind fun t570 => (imageeditorlaw12_AffineReturns.j0 k (!t570) a0_0 a0_1 a0_2 a0_3 a0_4 a0_5 a1_0 a1_1)) else (imageeditorlaw12_AffineReturns.j0 k true a0_0 a0_1 a0_2 a0_3 a0_4 a0_5 a1_0 a1_1)) = some r := H
    have A6 := Aside0.mk A60
    clear A60
    by_cases c7 : t566 = true
    · subst c7
      have H1 : ((imageeditorlaw12_within.f k 16777216 (([a1_0, a1_1] : List Int))).bind fun t570 => (imageeditorlaw12_AffineReturns.j0 k (!t570) a0_0 a0_1 a0_2 a0_3 a0_4 a0_5 a1_0 a1_1)) = some r := by rw [if_pos rfl] at H; exact H
      clear H
      have H := H1
      clear H1
      obtain ⟨y567, hy567⟩ : ∃ y_ : List Int, y_ = (([a1_0, a1_1] : List Int)) := ⟨_, rfl⟩
      replace H : ((imageeditorlaw12_within.f k 16777216 y567).bind fun t570 => (imageeditorlaw12_AffineReturns.j0 k (!t570) a0_0 a0_1 a0_2 a0_3 a0_4 a0_5 a1_0 a1_1)) = some r := by first | (rw [hy567]; with_reducible exact H) | (have H2_ := (Option.bind_some _ _).symm.trans H; rw [hy567]; with_reducible exact H2_) | (have H2_ := (Option.bind_some _ _).symm.trans H; with_reducible exact H2_) | with_reducible exact H | (rw [hy567]; exact H) | exact H
      have Ny567 := Aside0.mk hy567
      clear hy567
      replace H := Option.bind_eq_some_iff.mp H
      obtain ⟨t570, A80, H⟩ := H
      replace H : (imageeditorlaw12_AffineReturns.j0 k (!t570) a0_0 a0_1 a0_2 a0_3 a0_4 a0_5 a1_0 a1_1) = some r := H
      have A8 := Aside0.mk A80
      clear A80
      have H' := Aside0.mk H
      clear H
      have hnb9 := NB564_565.out
      have hnc9 := NB565_564.out
      have hcz10_0 : w5.cell? ⟨gb564, 0, none⟩ = some (.int .i64 a0_0) := (blk_cell BK564.out 0).trans rfl
      have hcz10_1 : w5.cell? ⟨gb564, 1, none⟩ = some (.int .i64 a0_1) := (blk_cell BK564.out 1).trans rfl
      have hcz10_2 : w5.cell? ⟨gb564, 2, none⟩ = some (.int .i64 a0_2) := (blk_cell BK564.out 2).trans rfl
      have hcz10_3 : w5.cell? ⟨gb564, 3, none⟩ = some (.int .i64 a0_3) := (blk_cell BK564.out 3).trans rfl
      have hcz10_4 : w5.cell? ⟨gb564, 4, none⟩ = some (.int .i64 a0_4) := (blk_cell BK564.out 4).trans rfl
      have hcz10_5 : w5.cell? ⟨gb564, 5, none⟩ = some (.int .i64 a0_5) := (blk_cell BK564.out 5).trans rfl
      have hfz10_0 := blk_frozen BK564.out 0
      have hfz10_1 := blk_frozen BK564.out 1
      have hfz10_2 := blk_frozen BK564.out 2
      have hfz10_3 := blk_frozen BK564.out 3
      have hfz10_4 := blk_frozen BK564.out 4
      have hfz10_5 := blk_frozen BK564.out 5
      go_wp2_with (first | ((with_reducible refine gate_callee (f := 27) rfl ?_); refine goesL_ (some 10) rfl rfl Try.func27 (by kernel_rfl) rfl #[.agg #[.int .i64 a0_0, .int .i64 a0_1, .int .i64 a0_2, .int .i64 a0_3, .int .i64 a0_4, .int .i64 a0_5], .int .i64 16777216] rfl (by (try simp only [List.map_toArray, List.map_cons, List.map_nil]); first | done | rfl | (simp only [List.length_drop, List.length_take]; rfl)) ?_; (with_reducible refine (imageeditorlaw12_small.calls k a0_0 a0_1 a0_2 a0_3 a0_4 a0_5 16777216 true _ A6.out).mono ?_); rintro e w11 ⟨rfl, hb⟩; refine ⟨_, rfl, ?_⟩; have n0_ := Aside0.mk (blk_below (g := gb564) (o := .cells #[.int .i64 a0_0, .int .i64 a0_1, .int .i64 a0_2, .int .i64 a0_3, .int .i64 a0_4, .int .i64 a0_5] 23 (0, 0)) (by (with_reducible repeat (first | refine blk_drewN ?_ _ | refine blk_drew ?_ | refine blk_alloc ?_ _)); exact BK564.out) hb); have n1_ := Aside0.mk (blk_below (g := gb565) (o := .cells #[.int .i64 a1_0, .int .i64 a1_1] 25 (0, 0)) (by (with_reducible repeat (first | refine blk_drewN ?_ _ | refine blk_drew ?_ | refine blk_alloc ?_ _)); exact BK565.out) hb); have n2_ := Aside0.mk (below_step (by repeat (first | (with_reducible first | exact HB.out | apply below_alloc | apply pw_below_drewN | apply below_drew1 | refine below_set ?_ GE564.out | refine below_set ?_ GE565.out) | exact HB.out)) hb); clear BK564; clear BK565; clear HB; have BK564 := n0_; have BK565 := n1_; have HB := n2_; clear n0_ n1_ n2_; (try clear hb); (try clear hb2); (try clear hk); (try clear hi); have hcz12_0 : w11.cell? ⟨gb565, 0, none⟩ = some (.int .i64 a1_0) := (blk_cell BK565.out 0).trans rfl; have hcz12_1 : w11.cell? ⟨gb565, 1, none⟩ = some (.int .i64 a1_1) := (blk_cell BK565.out 1).trans rfl; have hfz12_0 := blk_frozen BK565.out 0; have hfz12_1 := blk_frozen BK565.out 1) | ((with_reducible refine gate_dst (N := 17) rfl ?_); (try (refine gate_grd (by rfl) ?_; dsimp only)); refine Kd.R_lit (Kd.int .i64) _ 3 ?hg (N := 17) ?hd (xs := ([a1_0, a1_1] : List Int)) (inner := [.int .i64 a1_0, .int .i64 a1_1]) (ok := fun _ => True) (okp := fun _ => True) ?hr ?hp (fun _ hk => hk) trivial (Below.refl _ _) (Nat.le_refl _) (by simp) ?_; (case hd => rfl); (case hg => rfl); (case hr => first | (go_simp; done) | (go_simp; rfl)); (case hp => exact (Reps.one (show Kd.M (Kd.int .i64) _ _ _ a1_0 [.int .i64 a1_0] from rfl) (Reps.one (show Kd.M (Kd.int .i64) _ _ _ a1_1 [.int .i64 a1_1] from rfl) (Reps.none _ _)))); intro v568 w13 ho14 hb hg_ hnew_; clear hg_ hnew_; (first | rw [← Ny567.out] at ho14 | (simp only [Int.reduceToNat] at ho14; rw [← Ny567.out] at ho14)); have n0_ := Aside0.mk (Kd.R_lower ho14 (below_size (by repeat (first | (with_reducible first | exact HB.out | apply below_alloc | apply pw_below_drewN | apply below_drew1 | refine below_set ?_ GE564.out | refine below_set ?_ GE565.out) | exact HB.out)))); have n1_ := Aside0.mk (blk_below (g := gb564) (o := .cells #[.int .i64 a0_0, .int .i64 a0_1, .int .i64 a0_2, .int .i64 a0_3, .int .i64 a0_4, .int .i64 a0_5] 23 (0, 0)) (by (with_reducible repeat (first | refine blk_drewN ?_ _ | refine blk_drew ?_ | refine blk_alloc ?_ _)); exact BK564.out) hb); have n2_ := Aside0.mk (blk_below (g := gb565) (o := .cells #[.int .i64 a1_0, .int .i64 a1_1] 25 (0, 0)) (by (with_reducible repeat (first | refine blk_drewN ?_ _ | refine blk_drew ?_ | refine blk_alloc ?_ _)); exact BK565.out) hb); have n3_ := Aside0.mk (below_step (by repeat (first | (with_reducible first | exact HB.out | apply below_alloc | apply pw_below_drewN | apply below_drew1 | refine below_set ?_ GE564.out | refine below_set ?_ GE565.out) | exact HB.out)) hb); clear BK564; clear BK565; clear HB; have HO569 := n0_; have BK564 := n1_; have BK565 := n2_; have HB := n3_; clear n0_ n1_ n2_ n3_; clear hb ho14; obtain ⟨Ao15, co15, eo15⟩ := Kd.R_slice HO569.out; subst eo15) | (go_at_call 25; (with_reducible refine (imageeditorlaw12_within.calls k 16777216 _ _ y567 t570 _ ?side1 ?side2 A8.out).mono ?_); (case side1 => repeat (first | exact (Kd.R_reads' HO569.out).2.2 | (with_reducible refine Kd.C_alloc ?_ _) | (with_reducible refine Kd.C_drewN ?_ _) | (with_reducible refine Kd.C_drew ?_))); (case side2 => exact (Kd.R_reads' HO569.out).2.1); rintro e w' ⟨rfl, ⟨nd, rfl⟩⟩))
      go_meet
      case rel => exact ⟨_, (!t570), (by first | rfl | (simp; done) | (simp [*]; done)), H', ⟨by first | omega | exact Nat.le_refl _⟩, ⟨by (with_reducible repeat (first | refine blk_drewN ?_ _ | refine blk_drew ?_ | refine blk_alloc ?_ _)); exact BK564.out⟩, ⟨by (with_reducible repeat (first | refine blk_drewN ?_ _ | refine blk_drew ?_ | refine blk_alloc ?_ _)); exact BK565.out⟩, ⟨by repeat (first | (with_reducible first | exact HB.out | apply below_alloc | apply pw_below_drewN | apply below_drew1 | refine below_set ?_ GE564.out | refine below_set ?_ GE565.out) | exact HB.out)⟩⟩
    · replace c7 := Bool.eq_false_iff.mpr c7
      subst c7
      have H1 : (imageeditorlaw12_AffineReturns.j0 k true a0_0 a0_1 a0_2 a0_3 a0_4 a0_5 a1_0 a1_1) = some r := by rw [if_neg (show ¬ (false = true) by decide)] at H; exact H
      clear H
      have H := H1
      clear H1
      have H' := Aside0.mk H
      clear H
      have hnb16 := NB564_565.out
      have hnc16 := NB565_564.out
      have hcz17_0 : w5.cell? ⟨gb564, 0, none⟩ = some (.int .i64 a0_0) := (blk_cell BK564.out 0).trans rfl
      have hcz17_1 : w5.cell? ⟨gb564, 1, none⟩ = some (.int .i64 a0_1) := (blk_cell BK564.out 1).trans rfl
      have hcz17_2 : w5.cell? ⟨gb564, 2, none⟩ = some (.int .i64 a0_2) := (blk_cell BK564.out 2).trans rfl
      have hcz17_3 : w5.cell? ⟨gb564, 3, none⟩ = some (.int .i64 a0_3) := (blk_cell BK564.out 3).trans rfl
      have hcz17_4 : w5.cell? ⟨gb564, 4, none⟩ = some (.int .i64 a0_4) := (blk_cell BK564.out 4).trans rfl
      have hcz17_5 : w5.cell? ⟨gb564, 5, none⟩ = some (.int .i64 a0_5) := (blk_cell BK564.out 5).trans rfl
      have hfz17_0 := blk_frozen BK564.out 0
      have hfz17_1 := blk_frozen BK564.out 1
      have hfz17_2 := blk_frozen BK564.out 2
      have hfz17_3 := blk_frozen BK564.out 3
      have hfz17_4 := blk_frozen BK564.out 4
      have hfz17_5 := blk_frozen BK564.out 5
      go_wp2_with (first | ((with_reducible refine gate_callee (f := 27) rfl ?_); refine goesL_ (some 10) rfl rfl Try.func27 (by kernel_rfl) rfl #[.agg #[.int .i64 a0_0, .int .i64 a0_1, .int .i64 a0_2, .int .i64 a0_3, .int .i64 a0_4, .int .i64 a0_5], .int .i64 16777216] rfl (by (try simp only [List.map_toArray, List.map_cons, List.map_nil]); first | done | rfl | (simp only [List.length_drop, List.length_take]; rfl)) ?_; (with_reducible refine (imageeditorlaw12_small.calls k a0_0 a0_1 a0_2 a0_3 a0_4 a0_5 16777216 false _ A6.out).mono ?_); rintro e w18 ⟨rfl, hb⟩; refine ⟨_, rfl, ?_⟩; have n0_ := Aside0.mk (blk_below (g := gb564) (o := .cells #[.int .i64 a0_0, .int .i64 a0_1, .int .i64 a0_2, .int .i64 a0_3, .int .i64 a0_4, .int .i64 a0_5] 23 (0, 0)) (by (with_reducible repeat (first | refine blk_drewN ?_ _ | refine blk_drew ?_ | refine blk_alloc ?_ _)); exact BK564.out) hb); have n1_ := Aside0.mk (blk_below (g := gb565) (o := .cells #[.int .i64 a1_0, .int .i64 a1_1] 25 (0, 0)) (by (with_reducible repeat (first | refine blk_drewN ?_ _ | refine blk_drew ?_ | refine blk_alloc ?_ _)); exact BK565.out) hb); have n2_ := Aside0.mk (below_step (by repeat (first | (with_reducible first | exact HB.out | apply below_alloc | apply pw_below_drewN | apply below_drew1 | refine below_set ?_ GE564.out | refine below_set ?_ GE565.out) | exact HB.out)) hb); clear BK564; clear BK565; clear HB; have BK564 := n0_; have BK565 := n1_; have HB := n2_; clear n0_ n1_ n2_; (try clear hb); (try clear hb2); (try clear hk); (try clear hi)))
      go_meet
      case rel => exact ⟨_, (true), (by first | rfl | (simp; done) | (simp [*]; done)), H', ⟨by first | omega | exact Nat.le_refl _⟩, ⟨by (with_reducible repeat (first | refine blk_drewN ?_ _ | refine blk_drew ?_ | refine blk_alloc ?_ _)); exact BK564.out⟩, ⟨by (with_reducible repeat (first | refine blk_drewN ?_ _ | refine blk_drew ?_ | refine blk_alloc ?_ _)); exact BK565.out⟩, ⟨by repeat (first | (with_reducible first | exact HB.out | apply below_alloc | apply pw_below_drewN | apply below_drew1 | refine below_set ?_ GE564.out | refine below_set ?_ GE565.out) | exact HB.out)⟩⟩
  case rest =>
    clear HC3
    try clear c1
    try clear c2
    try clear p2
    try clear c7
    try clear c8
    try clear c9
    try clear c16
    try clear hcz10_0
    try clear hcz10_1
    try clear hcz10_2
    try clear hcz10_3
    try clear hcz10_4
    try clear hcz10_5
    try clear hcz12_0
    try clear hcz12_1
    try clear hcz17_0
    try clear hcz17_1
    try clear hcz17_2
    try clear hcz17_3
    try clear hcz17_4
    try clear hcz17_5
    try clear hfz10_0
    try clear hfz10_1
    try clear hfz10_2
    try clear hfz10_3
    try clear hfz10_4
    try clear hfz10_5
    try clear hfz12_0
    try clear hfz12_1
    try clear hfz17_0
    try clear hfz17_1
    try clear hfz17_2
    try clear hfz17_3
    try clear hfz17_4
    try clear hfz17_5
    obtain ⟨kq, x20_2, rfl, HA, HJ2, BK564, BK565, HB⟩ := hcut
    cases kq with
    | zero => exact absurd HA.out (by simp [imageeditorlaw12_AffineReturns.j0])
    | succ kj2 =>
      have H := HA.out
      clear HA
      simp only [imageeditorlaw12_AffineReturns.j0] at H
      by_cases c19 : x20_2 = true
      · subst c19
        have H1 : ((imageeditorlaw12_awake.f kj2).bind fun t571 => (some t571)) = some r := by rw [if_pos rfl] at H; exact H
        clear H
        have H := H1
        clear H1
        replace H := Option.bind_eq_some_iff.mp H
        obtain ⟨t571, A200, H⟩ := H
        replace H : (some t571) = some r := H
        have A20 := Aside0.mk A200
        clear A200
        obtain rfl := Option.some.inj H
        go_wp2_with (first | ((with_reducible refine gate_callee (f := 14) rfl ?_); refine goesL_ (some 21) rfl rfl Try.func14 (by kernel_rfl) rfl #[] rfl (by (try simp only [List.map_toArray, List.map_cons, List.map_nil]); first | done | rfl | (simp only [List.length_drop, List.length_take]; rfl)) ?_; (with_reducible refine (imageeditorlaw12_awake.calls kj2  t571 _ A20.out).mono ?_); rintro e w21 ⟨rfl, hb⟩; refine ⟨_, rfl, ?_⟩; have n0_ := Aside0.mk (blk_below (g := gb564) (o := .cells #[.int .i64 a0_0, .int .i64 a0_1, .int .i64 a0_2, .int .i64 a0_3, .int .i64 a0_4, .int .i64 a0_5] 23 (0, 0)) (by (with_reducible repeat (first | refine blk_drewN ?_ _ | refine blk_drew ?_ | refine blk_alloc ?_ _)); exact BK564.out) hb); have n1_ := Aside0.mk (blk_below (g := gb565) (o := .cells #[.int .i64 a1_0, .int .i64 a1_1] 25 (0, 0)) (by (with_reducible repeat (first | refine blk_drewN ?_ _ | refine blk_drew ?_ | refine blk_alloc ?_ _)); exact BK565.out) hb); have n2_ := Aside0.mk (below_step (by repeat (first | (with_reducible first | exact HB.out | apply below_alloc | apply pw_below_drewN | apply below_drew1 | refine below_set ?_ GE564.out | refine below_set ?_ GE565.out) | exact HB.out)) hb); clear BK564; clear BK565; clear HB; have BK564 := n0_; have BK565 := n1_; have HB := n2_; clear n0_ n1_ n2_; (try clear hb); (try clear hb2); (try clear hk); (try clear hi)))
        go_ret
        exact ⟨by first | rfl | (simp [errW_none, errW_some] <;> rfl) | (simp [*, errW_none, errW_some] <;> rfl), by repeat (first | (with_reducible first | exact HB.out | apply below_alloc | apply pw_below_drewN | apply below_drew1 | refine below_set ?_ GE564.out | refine below_set ?_ GE565.out) | exact HB.out)⟩
      · replace c19 := Bool.eq_false_iff.mpr c19
        subst c19
        have H1 : (if (wrap64 ((wrap64 (a0_0 * a0_3)) - (wrap64 (a0_1 * a0_2)))) < 1073741824 then (imageeditorlaw12_AffineReturns.j1 kj2 (decide ((wrap64 ((wrap64 (a0_0 * a0_3)) - (wrap64 (a0_1 * a0_2)))) > (-1073741824))) a0_0 a0_1 a0_2 a0_3 a0_4 a0_5 a1_0 a1_1) else (imageeditorlaw12_AffineReturns.j1 kj2 false a0_0 a0_1 a0_2 a0_3 a0_4 a0_5 a1_0 a1_1)) = some r := by rw [if_neg (show ¬ (false = true) by decide)] at H; exact H
        clear H
        have H := H1
        clear H1
        have HC22 := Aside0.mk H
        clear H
        have hnb23 := NB564_565.out
        have hnc23 := NB565_564.out
        have hcz24_0 : wc.cell? ⟨gb564, 0, none⟩ = some (.int .i64 a0_0) := (blk_cell BK564.out 0).trans rfl
        have hcz24_1 : wc.cell? ⟨gb564, 1, none⟩ = some (.int .i64 a0_1) := (blk_cell BK564.out 1).trans rfl
        have hcz24_2 : wc.cell? ⟨gb564, 2, none⟩ = some (.int .i64 a0_2) := (blk_cell BK564.out 2).trans rfl
        have hcz24_3 : wc.cell? ⟨gb564, 3, none⟩ = some (.int .i64 a0_3) := (blk_cell BK564.out 3).trans rfl
        have hcz24_4 : wc.cell? ⟨gb564, 4, none⟩ = some (.int .i64 a0_4) := (blk_cell BK564.out 4).trans rfl
        have hcz24_5 : wc.cell? ⟨gb564, 5, none⟩ = some (.int .i64 a0_5) := (blk_cell BK564.out 5).trans rfl
        have hfz24_0 := blk_frozen BK564.out 0
        have hfz24_1 := blk_frozen BK564.out 1
        have hfz24_2 := blk_frozen BK564.out 2
        have hfz24_3 := blk_frozen BK564.out 3
        have hfz24_4 := blk_frozen BK564.out 4
        have hfz24_5 := blk_frozen BK564.out 5
        go_upto_region 4 with (fail)
        go_cut [38] (fun v38 wc => ∃ (kq : Nat) (x38_21 : Bool), v38 = .bool x38_21 ∧ Aside0 (imageeditorlaw12_AffineReturns.j1 kq x38_21 a0_0 a0_1 a0_2 a0_3 a0_4 a0_5 a1_0 a1_1 = some r) ∧ Aside0 (kq ≤ kj2) ∧ Aside0 (wc.heap[gb564]? = some (.cells #[.int .i64 a0_0, .int .i64 a0_1, .int .i64 a0_2, .int .i64 a0_3, .int .i64 a0_4, .int .i64 a0_5] 23 (0, 0))) ∧ Aside0 (wc.heap[gb565]? = some (.cells #[.int .i64 a1_0, .int .i64 a1_1] 25 (0, 0))) ∧ Aside0 (Below w.heap.size w wc))
        case first =>
          have H := HC22.out
          clear HC22
          by_cases c25 : (wrap64 ((wrap64 (a0_0 * a0_3)) - (wrap64 (a0_1 * a0_2)))) < 1073741824
          · rw [if_pos c25] at H
            have c25b0 : decide ((wrap64 ((wrap64 (a0_0 * a0_3)) - (wrap64 (a0_1 * a0_2)))) < 1073741824) = true := decide_eq_true c25
            clear c25
            (first | rw [c25b0] | (simp only [i64_w, i32_w]; rw [c25b0]) | skip)
            have H' := Aside0.mk H
            clear H
            go_wp2
            go_meet
            case rel => exact ⟨_, (decide ((wrap64 ((wrap64 (a0_0 * a0_3)) - (wrap64 (a0_1 * a0_2)))) > (-1073741824))), (by first | rfl | (simp; done) | (simp [*]; done)), H', ⟨by have := HJ2.out; first | omega | exact Nat.le_refl _⟩, ⟨by (with_reducible repeat (first | refine blk_drewN ?_ _ | refine blk_drew ?_ | refine blk_alloc ?_ _)); exact BK564.out⟩, ⟨by (with_reducible repeat (first | refine blk_drewN ?_ _ | refine blk_drew ?_ | refine blk_alloc ?_ _)); exact BK565.out⟩, ⟨by repeat (first | (with_reducible first | exact HB.out | apply below_alloc | apply pw_below_drewN | apply below_drew1 | refine below_set ?_ GE564.out | refine below_set ?_ GE565.out) | exact HB.out)⟩⟩
          · rw [if_neg c25] at H
            have c25b0 : decide ((wrap64 ((wrap64 (a0_0 * a0_3)) - (wrap64 (a0_1 * a0_2)))) < 1073741824) = false := decide_eq_false c25
            clear c25
            (first | rw [c25b0] | (simp only [i64_w, i32_w]; rw [c25b0]) | skip)
            have H' := Aside0.mk H
            clear H
            go_wp2
            go_meet
            case rel => exact ⟨_, (false), (by first | rfl | (simp; done) | (simp [*]; done)), H', ⟨by have := HJ2.out; first | omega | exact Nat.le_refl _⟩, ⟨by (with_reducible repeat (first | refine blk_drewN ?_ _ | refine blk_drew ?_ | refine blk_alloc ?_ _)); exact BK564.out⟩, ⟨by (with_reducible repeat (first | refine blk_drewN ?_ _ | refine blk_drew ?_ | refine blk_alloc ?_ _)); exact BK565.out⟩, ⟨by repeat (first | (with_reducible first | exact HB.out | apply below_alloc | apply pw_below_drewN | apply below_drew1 | refine below_set ?_ GE564.out | refine below_set ?_ GE565.out) | exact HB.out)⟩⟩
        case rest =>
          clear HC22
          try clear c1
          try clear c2
          try clear p2
          try clear p6
          try clear c7
          try clear c8
          try clear c9
          try clear c14
          try clear c16
          try clear c19
          try clear c23
          try clear c25
          try clear c25b0
          try clear hcz10_0
          try clear hcz10_1
          try clear hcz10_2
          try clear hcz10_3
          try clear hcz10_4
          try clear hcz10_5
          try clear hcz12_0
          try clear hcz12_1
          try clear hcz17_0
          try clear hcz17_1
          try clear hcz17_2
          try clear hcz17_3
          try clear hcz17_4
          try clear hcz17_5
          try clear hcz24_0
          try clear hcz24_1
          try clear hcz24_2
          try clear hcz24_3
          try clear hcz24_4
          try clear hcz24_5
          try clear hfz10_0
          try clear hfz10_1
          try clear hfz10_2
          try clear hfz10_3
          try clear hfz10_4
          try clear hfz10_5
          try clear hfz12_0
          try clear hfz12_1
          try clear hfz17_0
          try clear hfz17_1
          try clear hfz17_2
          try clear hfz17_3
          try clear hfz17_4
          try clear hfz17_5
          try clear hfz24_0
          try clear hfz24_1
          try clear hfz24_2
          try clear hfz24_3
          try clear hfz24_4
          try clear hfz24_5
          try clear p2
          obtain ⟨kq, x38_21, rfl, HA, HJ21, BK564, BK565, HB⟩ := hcut
          cases kq with
          | zero => exact absurd HA.out (by simp [imageeditorlaw12_AffineReturns.j1])
          | succ kj21 =>
            have H := HA.out
            clear HA
            simp only [imageeditorlaw12_AffineReturns.j1] at H
            by_cases c26 : x38_21 = true
            · subst c26
              have H1 : ((imageeditorlaw12_awake.f kj21).bind fun t572 => (some t572)) = some r := by rw [if_pos rfl] at H; exact H
              clear H
              have H := H1
              clear H1
              replace H := Option.bind_eq_some_iff.mp H
              obtain ⟨t572, A270, H⟩ := H
              replace H : (some t572) = some r := H
              have A27 := Aside0.mk A270
              clear A270
              obtain rfl := Option.some.inj H
              go_wp2_with (first | ((with_reducible refine gate_callee (f := 14) rfl ?_); refine goesL_ (some 39) rfl rfl Try.func14 (by kernel_rfl) rfl #[] rfl (by (try simp only [List.map_toArray, List.map_cons, List.map_nil]); first | done | rfl | (simp only [List.length_drop, List.length_take]; rfl)) ?_; (with_reducible refine (imageeditorlaw12_awake.calls kj21  t572 _ A27.out).mono ?_); rintro e w28 ⟨rfl, hb⟩; refine ⟨_, rfl, ?_⟩; have n0_ := Aside0.mk (blk_below (g := gb564) (o := .cells #[.int .i64 a0_0, .int .i64 a0_1, .int .i64 a0_2, .int .i64 a0_3, .int .i64 a0_4, .int .i64 a0_5] 23 (0, 0)) (by (with_reducible repeat (first | refine blk_drewN ?_ _ | refine blk_drew ?_ | refine blk_alloc ?_ _)); exact BK564.out) hb); have n1_ := Aside0.mk (blk_below (g := gb565) (o := .cells #[.int .i64 a1_0, .int .i64 a1_1] 25 (0, 0)) (by (with_reducible repeat (first | refine blk_drewN ?_ _ | refine blk_drew ?_ | refine blk_alloc ?_ _)); exact BK565.out) hb); have n2_ := Aside0.mk (below_step (by repeat (first | (with_reducible first | exact HB.out | apply below_alloc | apply pw_below_drewN | apply below_drew1 | refine below_set ?_ GE564.out | refine below_set ?_ GE565.out) | exact HB.out)) hb); clear BK564; clear BK565; clear HB; have BK564 := n0_; have BK565 := n1_; have HB := n2_; clear n0_ n1_ n2_; (try clear hb); (try clear hb2); (try clear hk); (try clear hi)))
              go_ret
              exact ⟨by first | rfl | (simp [errW_none, errW_some] <;> rfl) | (simp [*, errW_none, errW_some] <;> rfl), by repeat (first | (with_reducible first | exact HB.out | apply below_alloc | apply pw_below_drewN | apply below_drew1 | refine below_set ?_ GE564.out | refine below_set ?_ GE565.out) | exact HB.out)⟩
            · replace c26 := Bool.eq_false_iff.mpr c26
              subst c26
              have H1 : ((affine_Inverse.f kj21 a0_0 a0_1 a0_2 a0_3 a0_4 a0_5).bind fun bt573 => ((affine_Apply.f kj21 a0_0 a0_1 a0_2 a0_3 a0_4 a0_5 a1_0 a1_1).bind fun bt581 => ((affine_Apply.f kj21 bt573.1 bt573.2.1 bt573.2.2.1 bt573.2.2.2.1 bt573.2.2.2.2.1 bt573.2.2.2.2.2.1 bt581.1 bt581.2).bind fun bt583 => (if bt573.2.2.2.2.2.2 = 0 then ((imageeditorlaw12_within.f kj21 1099511627776 (([bt583.1, bt583.2] : List Int))).bind fun t589 => (if t589 = true then ((imageeditorlaw12_within.f kj21 4096 (([wrap64 (bt583.1 - a1_0), wrap64 (bt583.2 - a1_1)] : List Int))).bind fun t593 => (if t593 = true then ((imageeditorlaw12_awake.f kj21).bind fun t594 => (some t594)) else (none))) else (none))) else (none))))) = some r := by rw [if_neg (show ¬ (false = true) by decide)] at H; exact H
              clear H
              have H := H1
              clear H1
              replace H := Option.bind_eq_some_iff.mp H
              obtain ⟨⟨t573, t574, t575, t576, t577, t578, t579⟩, A290, H⟩ := H
              replace H : ((affine_Apply.f kj21 a0_0 a0_1 a0_2 a0_3 a0_4 a0_5 a1_0 a1_1).bind fun bt581 => ((affine_Apply.f kj21 t573 t574 t575 t576 t577 t578 bt581.1 bt581.2).bind fun bt583 => (if t579 = 0 then ((imageeditorlaw12_within.f kj21 1099511627776 (([bt583.1, bt583.2] : List Int))).bind fun t589 => (if t589 = true then ((imageeditorlaw12_within.f kj21 4096 (([wrap64 (bt583.1 - a1_0), wrap64 (bt583.2 - a1_1)] : List Int))).bind fun t593 => (if t593 = true then ((imageeditorlaw12_awake.f kj21).bind fun t594 => (some t594)) else (none))) else (none))) else (none)))) = some r := H
              have A29 := Aside0.mk A290
              clear A290
              replace H := Option.bind_eq_some_iff.mp H
              obtain ⟨⟨t581, t582⟩, A300, H⟩ := H
              replace H : ((affine_Apply.f kj21 t573 t574 t575 t576 t577 t578 t581 t582).bind fun bt583 => (if t579 = 0 then ((imageeditorlaw12_within.f kj21 1099511627776 (([bt583.1, bt583.2] : List Int))).bind fun t589 => (if t589 = true then ((imageeditorlaw12_within.f kj21 4096 (([wrap64 (bt583.1 - a1_0), wrap64 (bt583.2 - a1_1)] : List Int))).bind fun t593 => (if t593 = true then ((imageeditorlaw12_awake.f kj21).bind fun t594 => (some t594)) else (none))) else (none))) else (none))) = some r := H
              have A30 := Aside0.mk A300
              clear A300
              replace H := Option.bind_eq_some_iff.mp H
              obtain ⟨⟨t583, t584⟩, A310, H⟩ := H
              replace H : (if t579 = 0 then ((imageeditorlaw12_within.f kj21 1099511627776 (([t583, t584] : List Int))).bind fun t589 => (if t589 = true then ((imageeditorlaw12_within.f kj21 4096 (([wrap64 (t583 - a1_0), wrap64 (t584 - a1_1)] : List Int))).bind fun t593 => (if t593 = true then ((imageeditorlaw12_awake.f kj21).bind fun t594 => (some t594)) else (none))) else (none))) else (none)) = some r := H
              have A31 := Aside0.mk A310
              clear A310
              by_cases c32 : t579 = 0
              · rw [if_pos c32] at H
                have c32b0 : (t579 == 0) = true := beq_iff_eq.mpr c32
                have c32b1 : (t579 != 0) = false := bne_eq_false_iff_eq.mpr c32
                clear c32
                obtain ⟨y586, hy586⟩ : ∃ y_ : List Int, y_ = (([t583, t584] : List Int)) := ⟨_, rfl⟩
                replace H : ((imageeditorlaw12_within.f kj21 1099511627776 y586).bind fun t589 => (if t589 = true then ((imageeditorlaw12_within.f kj21 4096 (([wrap64 (t583 - a1_0), wrap64 (t584 - a1_1)] : List Int))).bind fun t593 => (if t593 = true then ((imageeditorlaw12_awake.f kj21).bind fun t594 => (some t594)) else (none))) else (none))) = some r := by first | (rw [hy586]; with_reducible exact H) | (have H2_ := (Option.bind_some _ _).symm.trans H; rw [hy586]; with_reducible exact H2_) | (have H2_ := (Option.bind_some _ _).symm.trans H; with_reducible exact H2_) | with_reducible exact H | (rw [hy586]; exact H) | exact H
                have Ny586 := Aside0.mk hy586
                clear hy586
                replace H := Option.bind_eq_some_iff.mp H
                obtain ⟨t589, A330, H⟩ := H
                replace H : (if t589 = true then ((imageeditorlaw12_within.f kj21 4096 (([wrap64 (t583 - a1_0), wrap64 (t584 - a1_1)] : List Int))).bind fun t593 => (if t593 = true then ((imageeditorlaw12_awake.f kj21).bind fun t594 => (some t594)) else (none))) else (none)) = some r := H
                have A33 := Aside0.mk A330
                clear A330
                by_cases c34 : t589 = true
                · subst c34
                  have H1 : ((imageeditorlaw12_within.f kj21 4096 (([wrap64 (t583 - a1_0), wrap64 (t584 - a1_1)] : List Int))).bind fun t593 => (if t593 = true then ((imageeditorlaw12_awake.f kj21).bind fun t594 => (some t594)) else (none))) = some r := by rw [if_pos rfl] at H; exact H
                  clear H
                  have H := H1
                  clear H1
                  obtain ⟨y590, hy590⟩ : ∃ y_ : List Int, y_ = (([wrap64 (t583 - a1_0), wrap64 (t584 - a1_1)] : List Int)) := ⟨_, rfl⟩
                  replace H : ((imageeditorlaw12_within.f kj21 4096 y590).bind fun t593 => (if t593 = true then ((imageeditorlaw12_awake.f kj21).bind fun t594 => (some t594)) else (none))) = some r := by first | (rw [hy590]; with_reducible exact H) | (have H2_ := (Option.bind_some _ _).symm.trans H; rw [hy590]; with_reducible exact H2_) | (have H2_ := (Option.bind_some _ _).symm.trans H; with_reducible exact H2_) | with_reducible exact H | (rw [hy590]; exact H) | exact H
                  have Ny590 := Aside0.mk hy590
                  clear hy590
                  replace H := Option.bind_eq_some_iff.mp H
                  obtain ⟨t593, A350, H⟩ := H
                  replace H : (if t593 = true then ((imageeditorlaw12_awake.f kj21).bind fun t594 => (some t594)) else (none)) = some r := H
                  have A35 := Aside0.mk A350
                  clear A350
                  by_cases c36 : t593 = true
                  · subst c36
                    have H1 : ((imageeditorlaw12_awake.f kj21).bind fun t594 => (some t594)) = some r := by rw [if_pos rfl] at H; exact H
                    clear H
                    have H := H1
                    clear H1
                    replace H := Option.bind_eq_some_iff.mp H
                    obtain ⟨t594, A370, H⟩ := H
                    replace H : (some t594) = some r := H
                    have A37 := Aside0.mk A370
                    clear A370
                    obtain rfl := Option.some.inj H
                    have hnb38 := NB564_565.out
                    have hnc38 := NB565_564.out
                    have hcz39_0 : wc.cell? ⟨gb564, 0, none⟩ = some (.int .i64 a0_0) := (blk_cell BK564.out 0).trans rfl
                    have hcz39_1 : wc.cell? ⟨gb564, 1, none⟩ = some (.int .i64 a0_1) := (blk_cell BK564.out 1).trans rfl
                    have hcz39_2 : wc.cell? ⟨gb564, 2, none⟩ = some (.int .i64 a0_2) := (blk_cell BK564.out 2).trans rfl
                    have hcz39_3 : wc.cell? ⟨gb564, 3, none⟩ = some (.int .i64 a0_3) := (blk_cell BK564.out 3).trans rfl
                    have hcz39_4 : wc.cell? ⟨gb564, 4, none⟩ = some (.int .i64 a0_4) := (blk_cell BK564.out 4).trans rfl
                    have hcz39_5 : wc.cell? ⟨gb564, 5, none⟩ = some (.int .i64 a0_5) := (blk_cell BK564.out 5).trans rfl
                    have hfz39_0 := blk_frozen BK564.out 0
                    have hfz39_1 := blk_frozen BK564.out 1
                    have hfz39_2 := blk_frozen BK564.out 2
                    have hfz39_3 := blk_frozen BK564.out 3
                    have hfz39_4 := blk_frozen BK564.out 4
                    have hfz39_5 := blk_frozen BK564.out 5
                    try go_wp2_with (first | ((with_reducible refine gate_callee (f := 26) rfl ?_); refine goesL_ (some 42) rfl rfl Try.func26 (by kernel_rfl) rfl #[.agg #[.int .i64 a0_0, .int .i64 a0_1, .int .i64 a0_2, .int .i64 a0_3, .int .i64 a0_4, .int .i64 a0_5]] rfl (by (try simp only [List.map_toArray, List.map_cons, List.map_nil]); first | done | rfl | (simp only [List.length_drop, List.length_take]; rfl)) ?_; (with_reducible refine (affine_Inverse.calls kj21 a0_0 a0_1 a0_2 a0_3 a0_4 a0_5 t573 t574 t575 t576 t577 t578 t579 _ A29.out).mono ?_); rintro e w40 ⟨rfl, hb⟩; refine ⟨_, rfl, ?_⟩; have n0_ := Aside0.mk (blk_below (g := gb564) (o := .cells #[.int .i64 a0_0, .int .i64 a0_1, .int .i64 a0_2, .int .i64 a0_3, .int .i64 a0_4, .int .i64 a0_5] 23 (0, 0)) (by (with_reducible repeat (first | refine blk_drewN ?_ _ | refine blk_drew ?_ | refine blk_alloc ?_ _)); exact BK564.out) hb); have n1_ := Aside0.mk (blk_below (g := gb565) (o := .cells #[.int .i64 a1_0, .int .i64 a1_1] 25 (0, 0)) (by (with_reducible repeat (first | refine blk_drewN ?_ _ | refine blk_drew ?_ | refine blk_alloc ?_ _)); exact BK565.out) hb); have n2_ := Aside0.mk (below_step (by repeat (first | (with_reducible first | exact HB.out | apply below_alloc | apply pw_below_drewN | apply below_drew1 | refine below_set ?_ GE564.out | refine below_set ?_ GE565.out) | exact HB.out)) hb); clear BK564; clear BK565; clear HB; have BK564 := n0_; have BK565 := n1_; have HB := n2_; clear n0_ n1_ n2_; (try clear hb); (try clear hb2); (try clear hk); (try clear hi)) | ((with_reducible refine gate_dst (N := 6) rfl ?_); (try (refine gate_grd (by rfl) ?_; dsimp only)); refine box_event ?hg (N := 6) ?hd (cs := #[.int .i64 0, .int .i64 0, .int .i64 0, .int .i64 0, .int .i64 0, .int .i64 0]) (t := 23) ?hr ?_; (case hd => rfl); (case hg => rfl); (case hr => first | (go_simp; done) | (go_simp; rfl)); intro gb580 hg w41 hbox hb; have n0_ := Aside0.mk (blk_below (g := gb564) (o := .cells #[.int .i64 a0_0, .int .i64 a0_1, .int .i64 a0_2, .int .i64 a0_3, .int .i64 a0_4, .int .i64 a0_5] 23 (0, 0)) (by (with_reducible repeat (first | refine blk_drewN ?_ _ | refine blk_drew ?_ | refine blk_alloc ?_ _)); exact BK564.out) hb); have n1_ := Aside0.mk (blk_below (g := gb565) (o := .cells #[.int .i64 a1_0, .int .i64 a1_1] 25 (0, 0)) (by (with_reducible repeat (first | refine blk_drewN ?_ _ | refine blk_drew ?_ | refine blk_alloc ?_ _)); exact BK565.out) hb); have n2_ := Aside0.mk (below_step (by repeat (first | (with_reducible first | exact HB.out | apply below_alloc | apply pw_below_drewN | apply below_drew1 | refine below_set ?_ GE564.out | refine below_set ?_ GE565.out) | exact HB.out)) hb); have n3_ := Aside0.mk (hbox); have n4_ := Aside0.mk ((by rw [hg]; exact (below_size (by repeat (first | (with_reducible first | exact HB.out | apply below_alloc | apply pw_below_drewN | apply below_drew1 | refine below_set ?_ GE564.out | refine below_set ?_ GE565.out) | exact HB.out))) : w.heap.size ≤ gb580)); have n5_ := Aside0.mk ((by rw [hg]; exact (below_size (by repeat (first | (with_reducible first | exact HB.out | apply below_alloc | apply pw_below_drewN | apply below_drew1 | refine below_set ?_ GE564.out | refine below_set ?_ GE565.out) | exact HB.out))) : w.heap.size ≤ gb580)); have n6_ := Aside0.mk ((by rw [hg]; exact Nat.ne_of_lt (blk_lt (g := gb564) (o := .cells #[.int .i64 a0_0, .int .i64 a0_1, .int .i64 a0_2, .int .i64 a0_3, .int .i64 a0_4, .int .i64 a0_5] 23 (0, 0)) (by (with_reducible repeat (first | refine blk_drewN ?_ _ | refine blk_drew ?_ | refine blk_alloc ?_ _)); exact BK564.out)) : gb564 ≠ gb580)); have n7_ := Aside0.mk ((by rw [hg]; exact Nat.ne_of_gt (blk_lt (g := gb564) (o := .cells #[.int .i64 a0_0, .int .i64 a0_1, .int .i64 a0_2, .int .i64 a0_3, .int .i64 a0_4, .int .i64 a0_5] 23 (0, 0)) (by (with_reducible repeat (first | refine blk_drewN ?_ _ | refine blk_drew ?_ | refine blk_alloc ?_ _)); exact BK564.out)) : gb580 ≠ gb564)); have n8_ := Aside0.mk ((by rw [hg]; exact Nat.ne_of_lt (blk_lt (g := gb565) (o := .cells #[.int .i64 a1_0, .int .i64 a1_1] 25 (0, 0)) (by (with_reducible repeat (first | refine blk_drewN ?_ _ | refine blk_drew ?_ | refine blk_alloc ?_ _)); exact BK565.out)) : gb565 ≠ gb580)); have n9_ := Aside0.mk ((by rw [hg]; exact Nat.ne_of_gt (blk_lt (g := gb565) (o := .cells #[.int .i64 a1_0, .int .i64 a1_1] 25 (0, 0)) (by (with_reducible repeat (first | refine blk_drewN ?_ _ | refine blk_drew ?_ | refine blk_alloc ?_ _)); exact BK565.out)) : gb580 ≠ gb565)); clear BK564; clear BK565; clear HB; have BK564 := n0_; have BK565 := n1_; have HB := n2_; have BK580 := n3_; have GW580 := n4_; have GE580 := n5_; have NB564_580 := n6_; have NB580_564 := n7_; have NB565_580 := n8_; have NB580_565 := n9_; clear n0_ n1_ n2_ n3_ n4_ n5_ n6_ n7_ n8_ n9_; clear hb hbox hg; have hnb42 := NB580_564.out; have hnc42 := NB564_580.out; have hnb43 := NB580_565.out; have hnc43 := NB565_580.out; have hcz44_0 : w41.cell? ⟨gb580, 0, none⟩ = some (.int .i64 0) := (blk_cell BK580.out 0).trans rfl; have hcz44_1 : w41.cell? ⟨gb580, 1, none⟩ = some (.int .i64 0) := (blk_cell BK580.out 1).trans rfl; have hcz44_2 : w41.cell? ⟨gb580, 2, none⟩ = some (.int .i64 0) := (blk_cell BK580.out 2).trans rfl; have hcz44_3 : w41.cell? ⟨gb580, 3, none⟩ = some (.int .i64 0) := (blk_cell BK580.out 3).trans rfl; have hcz44_4 : w41.cell? ⟨gb580, 4, none⟩ = some (.int .i64 0) := (blk_cell BK580.out 4).trans rfl; have hcz44_5 : w41.cell? ⟨gb580, 5, none⟩ = some (.int .i64 0) := (blk_cell BK580.out 5).trans rfl; have hfz44_0 := blk_frozen BK580.out 0; have hfz44_1 := blk_frozen BK580.out 1; have hfz44_2 := blk_frozen BK580.out 2; have hfz44_3 := blk_frozen BK580.out 3; have hfz44_4 := blk_frozen BK580.out 4; have hfz44_5 := blk_frozen BK580.out 5))
                    have n0_ : Aside0 (((((((w41.setCell ⟨gb580, 0, none⟩ (.int .i64 t573)).setCell ⟨gb580, 1, none⟩ (.int .i64 t574)).setCell ⟨gb580, 2, none⟩ (.int .i64 t575)).setCell ⟨gb580, 3, none⟩ (.int .i64 t576)).setCell ⟨gb580, 4, none⟩ (.int .i64 t577)).setCell ⟨gb580, 5, none⟩ (.int .i64 t578)).heap[gb564]? = some (.cells #[.int .i64 a0_0, .int .i64 a0_1, .int .i64 a0_2, .int .i64 a0_3, .int .i64 a0_4, .int .i64 a0_5] 23 (0, 0))) := ⟨by (with_reducible repeat (first | refine blk_drewN ?_ _ | refine blk_drew ?_ | refine blk_alloc ?_ _)); refine blk_far ?_ NB564_580.out _; (with_reducible repeat (first | refine blk_drewN ?_ _ | refine blk_drew ?_ | refine blk_alloc ?_ _)); refine blk_far ?_ NB564_580.out _; (with_reducible repeat (first | refine blk_drewN ?_ _ | refine blk_drew ?_ | refine blk_alloc ?_ _)); refine blk_far ?_ NB564_580.out _; (with_reducible repeat (first | refine blk_drewN ?_ _ | refine blk_drew ?_ | refine blk_alloc ?_ _)); refine blk_far ?_ NB564_580.out _; (with_reducible repeat (first | refine blk_drewN ?_ _ | refine blk_drew ?_ | refine blk_alloc ?_ _)); refine blk_far ?_ NB564_580.out _; (with_reducible repeat (first | refine blk_drewN ?_ _ | refine blk_drew ?_ | refine blk_alloc ?_ _)); refine blk_far ?_ NB564_580.out _; (with_reducible repeat (first | refine blk_drewN ?_ _ | refine blk_drew ?_ | refine blk_alloc ?_ _)); exact BK564.out⟩
                    have n1_ : Aside0 (((((((w41.setCell ⟨gb580, 0, none⟩ (.int .i64 t573)).setCell ⟨gb580, 1, none⟩ (.int .i64 t574)).setCell ⟨gb580, 2, none⟩ (.int .i64 t575)).setCell ⟨gb580, 3, none⟩ (.int .i64 t576)).setCell ⟨gb580, 4, none⟩ (.int .i64 t577)).setCell ⟨gb580, 5, none⟩ (.int .i64 t578)).heap[gb565]? = some (.cells #[.int .i64 a1_0, .int .i64 a1_1] 25 (0, 0))) := ⟨by (with_reducible repeat (first | refine blk_drewN ?_ _ | refine blk_drew ?_ | refine blk_alloc ?_ _)); refine blk_far ?_ NB565_580.out _; (with_reducible repeat (first | refine blk_drewN ?_ _ | refine blk_drew ?_ | refine blk_alloc ?_ _)); refine blk_far ?_ NB565_580.out _; (with_reducible repeat (first | refine blk_drewN ?_ _ | refine blk_drew ?_ | refine blk_alloc ?_ _)); refine blk_far ?_ NB565_580.out _; (with_reducible repeat (first | refine blk_drewN ?_ _ | refine blk_drew ?_ | refine blk_alloc ?_ _)); refine blk_far ?_ NB565_580.out _; (with_reducible repeat (first | refine blk_drewN ?_ _ | refine blk_drew ?_ | refine blk_alloc ?_ _)); refine blk_far ?_ NB565_580.out _; (with_reducible repeat (first | refine blk_drewN ?_ _ | refine blk_drew ?_ | refine blk_alloc ?_ _)); refine blk_far ?_ NB565_580.out _; (with_reducible repeat (first | refine blk_drewN ?_ _ | refine blk_drew ?_ | refine blk_alloc ?_ _)); exact BK565.out⟩
                    have n2_ : Aside0 (((((((w41.setCell ⟨gb580, 0, none⟩ (.int .i64 t573)).setCell ⟨gb580, 1, none⟩ (.int .i64 t574)).setCell ⟨gb580, 2, none⟩ (.int .i64 t575)).setCell ⟨gb580, 3, none⟩ (.int .i64 t576)).setCell ⟨gb580, 4, none⟩ (.int .i64 t577)).setCell ⟨gb580, 5, none⟩ (.int .i64 t578)).heap[gb580]? = some (.cells #[.int .i64 t573, .int .i64 t574, .int .i64 t575, .int .i64 t576, .int .i64 t577, .int .i64 t578] 23 (0, 0))) := ⟨by (with_reducible repeat (first | refine blk_drewN ?_ _ | refine blk_drew ?_ | refine blk_alloc ?_ _)); refine blk_put (cs := #[.int .i64 t573, .int .i64 t574, .int .i64 t575, .int .i64 t576, .int .i64 t577, .int .i64 0]) ?_ 5 _ rfl; (with_reducible repeat (first | refine blk_drewN ?_ _ | refine blk_drew ?_ | refine blk_alloc ?_ _)); refine blk_put (cs := #[.int .i64 t573, .int .i64 t574, .int .i64 t575, .int .i64 t576, .int .i64 0, .int .i64 0]) ?_ 4 _ rfl; (with_reducible repeat (first | refine blk_drewN ?_ _ | refine blk_drew ?_ | refine blk_alloc ?_ _)); refine blk_put (cs := #[.int .i64 t573, .int .i64 t574, .int .i64 t575, .int .i64 0, .int .i64 0, .int .i64 0]) ?_ 3 _ rfl; (with_reducible repeat (first | refine blk_drewN ?_ _ | refine blk_drew ?_ | refine blk_alloc ?_ _)); refine blk_put (cs := #[.int .i64 t573, .int .i64 t574, .int .i64 0, .int .i64 0, .int .i64 0, .int .i64 0]) ?_ 2 _ rfl; (with_reducible repeat (first | refine blk_drewN ?_ _ | refine blk_drew ?_ | refine blk_alloc ?_ _)); refine blk_put (cs := #[.int .i64 t573, .int .i64 0, .int .i64 0, .int .i64 0, .int .i64 0, .int .i64 0]) ?_ 1 _ rfl; (with_reducible repeat (first | refine blk_drewN ?_ _ | refine blk_drew ?_ | refine blk_alloc ?_ _)); refine blk_put (cs := #[.int .i64 0, .int .i64 0, .int .i64 0, .int .i64 0, .int .i64 0, .int .i64 0]) ?_ 0 _ rfl; (with_reducible repeat (first | refine blk_drewN ?_ _ | refine blk_drew ?_ | refine blk_alloc ?_ _)); exact BK580.out⟩
                    have n3_ : Aside0 (Below w.heap.size w ((((((w41.setCell ⟨gb580, 0, none⟩ (.int .i64 t573)).setCell ⟨gb580, 1, none⟩ (.int .i64 t574)).setCell ⟨gb580, 2, none⟩ (.int .i64 t575)).setCell ⟨gb580, 3, none⟩ (.int .i64 t576)).setCell ⟨gb580, 4, none⟩ (.int .i64 t577)).setCell ⟨gb580, 5, none⟩ (.int .i64 t578))) := ⟨by repeat (first | (with_reducible first | exact HB.out | apply below_alloc | apply pw_below_drewN | apply below_drew1 | refine below_set ?_ GE564.out | refine below_set ?_ GE565.out | refine below_set ?_ GE580.out) | exact HB.out)⟩
                    (try clear BK564)
                    (try clear BK565)
                    (try clear BK580)
                    (try clear HB)
                    generalize ((((((w41.setCell ⟨gb580, 0, none⟩ (.int .i64 t573)).setCell ⟨gb580, 1, none⟩ (.int .i64 t574)).setCell ⟨gb580, 2, none⟩ (.int .i64 t575)).setCell ⟨gb580, 3, none⟩ (.int .i64 t576)).setCell ⟨gb580, 4, none⟩ (.int .i64 t577)).setCell ⟨gb580, 5, none⟩ (.int .i64 t578)) = w45 at n0_ n1_ n2_ n3_ ⊢
                    have BK564 := n0_
                    have BK565 := n1_
                    have BK580 := n2_
                    have HB := n3_
                    clear n0_ n1_ n2_ n3_
                    have n0_ := Aside0.mk (blk_drew BK564.out)
                    have n1_ := Aside0.mk (blk_drew BK565.out)
                    have n2_ := Aside0.mk (blk_drew BK580.out)
                    have n3_ := Aside0.mk (below_drew1 HB.out)
                    clear BK564
                    clear BK565
                    clear BK580
                    clear HB
                    have BK564 := n0_
                    have BK565 := n1_
                    have BK580 := n2_
                    have HB := n3_
                    clear n0_ n1_ n2_ n3_
                    refine start_ (n := 7) (S := fun w' => True) (ds := []) #[false, false, false, false, false, false, false] (by kernel_rfl) rfl rfl trivial (fun hHeld => ?_); refine with_tabW imageeditorlaw12_AffineReturns.tab7 imageeditorlaw12_AffineReturns.bits7 (fun HT_ HW_ => ?_)
                    generalize w45.drew = w46 at BK564 BK565 BK580 HB hHeld ⊢
                    refine inv_at [0, 1, 2, 3, 4, 5, 6] (fun a0_ b a w' => ∃ (gb585 : Nat) (m5_ : Value), a = putSel a0_ b [(0, 45, .agg #[.int .i64 t573, .int .i64 t574, .int .i64 t575, .int .i64 t576, .int .i64 t577, .int .i64 t578]), (1, 46, .agg #[.int .i64 a0_0, .int .i64 a0_1, .int .i64 a0_2, .int .i64 a0_3, .int .i64 a0_4, .int .i64 a0_5]), (2, 47, .agg #[.int .i64 a1_0, .int .i64 a1_1]), (3, 48, .agg #[.int .i64 t581, .int .i64 t582]), (4, 49, .agg #[.int .i64 t583, .int .i64 t584]), (5, 8, m5_)] ∧ (w'.heap[gb564]? = some (.cells #[.int .i64 a0_0, .int .i64 a0_1, .int .i64 a0_2, .int .i64 a0_3, .int .i64 a0_4, .int .i64 a0_5] 23 (0, 0))) ∧ (w'.heap[gb565]? = some (.cells #[.int .i64 a1_0, .int .i64 a1_1] 25 (0, 0))) ∧ (w'.heap[gb580]? = some (.cells #[.int .i64 t573, .int .i64 t574, .int .i64 t575, .int .i64 t576, .int .i64 t577, .int .i64 t578] 23 (0, 0))) ∧ (Below w.heap.size w w') ∧ (b 5 = true → b 6 = false → w'.heap[gb585]? = some (.cells #[.int .i64 0, .int .i64 0] 25 (0, 0))) ∧ (b 5 = true → w.heap.size ≤ gb585) ∧ (b 5 = true → w.heap.size ≤ gb585) ∧ (b 5 = true → gb564 ≠ gb585) ∧ (b 5 = true → gb585 ≠ gb564) ∧ (b 5 = true → gb565 ≠ gb585) ∧ (b 5 = true → gb585 ≠ gb565) ∧ (b 5 = true → gb580 ≠ gb585) ∧ (b 5 = true → gb585 ≠ gb580) ∧ (b 6 = true → w'.heap[gb585]? = some (.cells #[.int .i64 t583, .int .i64 t584] 25 (0, 0))) ∧ (b 5 = true → (m5_ : Value) = .pointer (some ⟨gb585, 0, none⟩))) HT_.out HW_.out (by kernel_rfl) (by kernel_rfl) ?_ ?_ ?_
                    · exact ⟨0, .bool false, by simp only [putSel, Bool.false_eq_true, if_false], BK564.out, BK565.out, BK580.out, HB.out, fun h_ => absurd h_ (by decide), fun h_ => absurd h_ (by decide), fun h_ => absurd h_ (by decide), fun h_ => absurd h_ (by decide), fun h_ => absurd h_ (by decide), fun h_ => absurd h_ (by decide), fun h_ => absurd h_ (by decide), fun h_ => absurd h_ (by decide), fun h_ => absurd h_ (by decide), fun h_ => absurd h_ (by decide), fun h_ => absurd h_ (by decide)⟩
                    · skip
                      clear BK564 BK565 BK580 HB
                      refine steps_cons ?_ ?_
                      · rintro b a w' ⟨gb585, m5_, ha, Q_BK564, Q_BK565, Q_BK580, Q_HB, Q_BK585, Q_GW585, Q_GE585, Q_NB564_585, Q_NB585_564, Q_NB565_585, Q_NB585_565, Q_NB580_585, Q_NB585_580, Q_BK585_e6, Q_X5_⟩ hb_ hon hoff
                        refine ⟨_, rfl, fun K hK => ?_⟩
                        have e6 : a.tmps[6]? = some (.pointer (some ⟨gb580, 0, none⟩)) := by rw [ha]; exact (putSel_off rfl).trans rfl
                        replace ha := Aside0.mk ha
                        have BK564 := Aside0.mk Q_BK564
                        have BK565 := Aside0.mk Q_BK565
                        have BK580 := Aside0.mk Q_BK580
                        have HB := Aside0.mk Q_HB
                        have hc0_ : w'.cell? ⟨gb580, 0, none⟩ = some (.int .i64 t573) := (blk_cell BK580.out 0).trans rfl
                        have hc1_ : w'.cell? ⟨gb580, 1, none⟩ = some (.int .i64 t574) := (blk_cell BK580.out 1).trans rfl
                        have hc2_ : w'.cell? ⟨gb580, 2, none⟩ = some (.int .i64 t575) := (blk_cell BK580.out 2).trans rfl
                        have hc3_ : w'.cell? ⟨gb580, 3, none⟩ = some (.int .i64 t576) := (blk_cell BK580.out 3).trans rfl
                        have hc4_ : w'.cell? ⟨gb580, 4, none⟩ = some (.int .i64 t577) := (blk_cell BK580.out 4).trans rfl
                        have hc5_ : w'.cell? ⟨gb580, 5, none⟩ = some (.int .i64 t578) := (blk_cell BK580.out 5).trans rfl
                        refine value_ (w1 := w') (v := .agg #[.int .i64 t573, .int .i64 t574, .int .i64 t575, .int .i64 t576, .int .i64 t577, .int .i64 t578]) (by rfl) rfl ?_ ?_
                        · go_simp
                          (try simp only [i64_w])
                          try rfl
                        refine hK.out _ _ ⟨gb585, m5_, (by rw [ha.out]; exact putSel_upk 0 hb_ rfl rfl rfl), Q_BK564, Q_BK565, Q_BK580, Q_HB, Q_BK585, Q_GW585, Q_GE585, Q_NB564_585, Q_NB585_564, Q_NB565_585, Q_NB585_565, Q_NB580_585, Q_NB585_580, fun h0_ => absurd ((hoff 6 (by kernel_rfl)).symm.trans h0_) (by decide), Q_X5_⟩
                      refine steps_cons ?_ ?_
                      · rintro b a w' ⟨gb585, m5_, ha, Q_BK564, Q_BK565, Q_BK580, Q_HB, Q_BK585, Q_GW585, Q_GE585, Q_NB564_585, Q_NB585_564, Q_NB565_585, Q_NB585_565, Q_NB580_585, Q_NB585_580, Q_BK585_e6, Q_X5_⟩ hb_ hon hoff
                        refine ⟨_, rfl, fun K hK => ?_⟩
                        have e2 : a.tmps[2]? = some (.pointer (some ⟨gb564, 0, none⟩)) := by rw [ha]; exact (putSel_off rfl).trans rfl
                        replace ha := Aside0.mk ha
                        have BK564 := Aside0.mk Q_BK564
                        have BK565 := Aside0.mk Q_BK565
                        have BK580 := Aside0.mk Q_BK580
                        have HB := Aside0.mk Q_HB
                        have hc0_ : w'.cell? ⟨gb564, 0, none⟩ = some (.int .i64 a0_0) := (blk_cell BK564.out 0).trans rfl
                        have hc1_ : w'.cell? ⟨gb564, 1, none⟩ = some (.int .i64 a0_1) := (blk_cell BK564.out 1).trans rfl
                        have hc2_ : w'.cell? ⟨gb564, 2, none⟩ = some (.int .i64 a0_2) := (blk_cell BK564.out 2).trans rfl
                        have hc3_ : w'.cell? ⟨gb564, 3, none⟩ = some (.int .i64 a0_3) := (blk_cell BK564.out 3).trans rfl
                        have hc4_ : w'.cell? ⟨gb564, 4, none⟩ = some (.int .i64 a0_4) := (blk_cell BK564.out 4).trans rfl
                        have hc5_ : w'.cell? ⟨gb564, 5, none⟩ = some (.int .i64 a0_5) := (blk_cell BK564.out 5).trans rfl
                        refine value_ (w1 := w') (v := .agg #[.int .i64 a0_0, .int .i64 a0_1, .int .i64 a0_2, .int .i64 a0_3, .int .i64 a0_4, .int .i64 a0_5]) (by rfl) rfl ?_ ?_
                        · go_simp
                          (try simp only [i64_w])
                          try rfl
                        refine hK.out _ _ ⟨gb585, m5_, (by rw [ha.out]; exact putSel_upk 1 hb_ rfl rfl rfl), Q_BK564, Q_BK565, Q_BK580, Q_HB, Q_BK585, Q_GW585, Q_GE585, Q_NB564_585, Q_NB585_564, Q_NB565_585, Q_NB585_565, Q_NB580_585, Q_NB585_580, fun h0_ => absurd ((hoff 6 (by kernel_rfl)).symm.trans h0_) (by decide), Q_X5_⟩
                      refine steps_cons ?_ ?_
                      · rintro b a w' ⟨gb585, m5_, ha, Q_BK564, Q_BK565, Q_BK580, Q_HB, Q_BK585, Q_GW585, Q_GE585, Q_NB564_585, Q_NB585_564, Q_NB565_585, Q_NB585_565, Q_NB580_585, Q_NB585_580, Q_BK585_e6, Q_X5_⟩ hb_ hon hoff
                        refine ⟨_, rfl, fun K hK => ?_⟩
                        have e3 : a.tmps[3]? = some (.pointer (some ⟨gb565, 0, none⟩)) := by rw [ha]; exact (putSel_off rfl).trans rfl
                        replace ha := Aside0.mk ha
                        have BK564 := Aside0.mk Q_BK564
                        have BK565 := Aside0.mk Q_BK565
                        have BK580 := Aside0.mk Q_BK580
                        have HB := Aside0.mk Q_HB
                        have hc0_ : w'.cell? ⟨gb565, 0, none⟩ = some (.int .i64 a1_0) := (blk_cell BK565.out 0).trans rfl
                        have hc1_ : w'.cell? ⟨gb565, 1, none⟩ = some (.int .i64 a1_1) := (blk_cell BK565.out 1).trans rfl
                        refine value_ (w1 := w') (v := .agg #[.int .i64 a1_0, .int .i64 a1_1]) (by rfl) rfl ?_ ?_
                        · go_simp
                          (try simp only [i64_w])
                          try rfl
                        refine hK.out _ _ ⟨gb585, m5_, (by rw [ha.out]; exact putSel_upk 2 hb_ rfl rfl rfl), Q_BK564, Q_BK565, Q_BK580, Q_HB, Q_BK585, Q_GW585, Q_GE585, Q_NB564_585, Q_NB585_564, Q_NB565_585, Q_NB585_565, Q_NB580_585, Q_NB585_580, fun h0_ => absurd ((hoff 6 (by kernel_rfl)).symm.trans h0_) (by decide), Q_X5_⟩
                      refine steps_cons ?_ ?_
                      · rintro b a w' ⟨gb585, m5_, ha, Q_BK564, Q_BK565, Q_BK580, Q_HB, Q_BK585, Q_GW585, Q_GE585, Q_NB564_585, Q_NB585_564, Q_NB565_585, Q_NB585_565, Q_NB580_585, Q_NB585_580, Q_BK585_e6, Q_X5_⟩ hb_ hon hoff
                        refine ⟨_, rfl, fun K hK => ?_⟩
                        have e46 : a.tmps[46]? = some (.agg #[.int .i64 a0_0, .int .i64 a0_1, .int .i64 a0_2, .int .i64 a0_3, .int .i64 a0_4, .int .i64 a0_5]) := by rw [ha]; exact putSel_on (e := (1, 46, .agg #[.int .i64 a0_0, .int .i64 a0_1, .int .i64 a0_2, .int .i64 a0_3, .int .i64 a0_4, .int .i64 a0_5])) 1 rfl rfl (hon 1 (by kernel_rfl)) rfl
                        have e47 : a.tmps[47]? = some (.agg #[.int .i64 a1_0, .int .i64 a1_1]) := by rw [ha]; exact putSel_on (e := (2, 47, .agg #[.int .i64 a1_0, .int .i64 a1_1])) 2 rfl rfl (hon 2 (by kernel_rfl)) rfl
                        replace ha := Aside0.mk ha
                        have BK564 := Aside0.mk Q_BK564
                        have BK565 := Aside0.mk Q_BK565
                        have BK580 := Aside0.mk Q_BK580
                        have HB := Aside0.mk Q_HB
                        refine goes_ Try.func12 (by kernel_rfl) rfl #[.agg #[.int .i64 a0_0, .int .i64 a0_1, .int .i64 a0_2, .int .i64 a0_3, .int .i64 a0_4, .int .i64 a0_5], .agg #[.int .i64 a1_0, .int .i64 a1_1]] (by rfl) rfl rfl (by first | (simp only [List.map_toArray, List.map_cons, List.map_nil, Act.eval, Array.getD_eq_getD_getElem?, Option.getD_some, e46, e47]; done) | (simp only [List.map_toArray, List.map_cons, List.map_nil, Act.eval, Array.getD_eq_getD_getElem?, Option.getD_some, e46, e47]; rfl)) ?_
                        with_reducible refine (affine_Apply.calls kj21 a0_0 a0_1 a0_2 a0_3 a0_4 a0_5 a1_0 a1_1 t581 t582 _ A30.out).mono ?_
                        rintro e w47 ⟨rfl, hb⟩
                        refine ⟨_, rfl, ?_⟩
                        have n0_ := Aside0.mk (blk_below (g := gb564) (o := .cells #[.int .i64 a0_0, .int .i64 a0_1, .int .i64 a0_2, .int .i64 a0_3, .int .i64 a0_4, .int .i64 a0_5] 23 (0, 0)) (by (with_reducible repeat (first | refine blk_drewN ?_ _ | refine blk_drew ?_ | refine blk_alloc ?_ _)); exact BK564.out) hb)
                        have n1_ := Aside0.mk (blk_below (g := gb565) (o := .cells #[.int .i64 a1_0, .int .i64 a1_1] 25 (0, 0)) (by (with_reducible repeat (first | refine blk_drewN ?_ _ | refine blk_drew ?_ | refine blk_alloc ?_ _)); exact BK565.out) hb)
                        have n2_ := Aside0.mk (blk_below (g := gb580) (o := .cells #[.int .i64 t573, .int .i64 t574, .int .i64 t575, .int .i64 t576, .int .i64 t577, .int .i64 t578] 23 (0, 0)) (by (with_reducible repeat (first | refine blk_drewN ?_ _ | refine blk_drew ?_ | refine blk_alloc ?_ _)); exact BK580.out) hb)
                        have n3_ := Aside0.mk (below_step (by repeat (first | (with_reducible first | exact HB.out | apply below_alloc | apply pw_below_drewN | apply below_drew1 | refine below_set ?_ GE564.out | refine below_set ?_ GE565.out | refine below_set ?_ GE580.out) | exact HB.out)) hb)
                        have z_BK585 := fun (h0_ : b 5 = true) (h1_ : b 6 = false) => (show w47.heap[gb585]? = some (.cells #[.int .i64 0, .int .i64 0] 25 (0, 0)) from by first | exact (blk_below (g := gb585) (o := .cells #[.int .i64 0, .int .i64 0] 25 (0, 0)) (by (with_reducible repeat (first | refine blk_drewN ?_ _ | refine blk_drew ?_ | refine blk_alloc ?_ _)); exact (Q_BK585 h0_ h1_)) hb))
                        clear BK564
                        clear BK565
                        clear BK580
                        clear HB
                        have BK564 := n0_
                        have BK565 := n1_
                        have BK580 := n2_
                        have HB := n3_
                        clear n0_ n1_ n2_ n3_
                        (try clear hb)
                        (try clear hb2)
                        (try clear hk)
                        (try clear hi)
                        refine hK.out _ _ ⟨gb585, m5_, (by rw [ha.out]; exact putSel_upk 3 hb_ rfl rfl rfl), (by (with_reducible repeat (first | refine blk_drewN ?_ _ | refine blk_drew ?_ | refine blk_alloc ?_ _)); exact BK564.out), (by (with_reducible repeat (first | refine blk_drewN ?_ _ | refine blk_drew ?_ | refine blk_alloc ?_ _)); exact BK565.out), (by (with_reducible repeat (first | refine blk_drewN ?_ _ | refine blk_drew ?_ | refine blk_alloc ?_ _)); exact BK580.out), (by repeat (first | (with_reducible first | exact HB.out | apply below_alloc | apply pw_below_drewN | apply below_drew1 | refine below_set ?_ GE564.out | refine below_set ?_ GE565.out | refine below_set ?_ GE580.out) | exact HB.out)), z_BK585, Q_GW585, Q_GE585, Q_NB564_585, Q_NB585_564, Q_NB565_585, Q_NB585_565, Q_NB580_585, Q_NB585_580, fun h0_ => absurd ((hoff 6 (by kernel_rfl)).symm.trans h0_) (by decide), Q_X5_⟩
                      refine steps_cons ?_ ?_
                      · rintro b a w' ⟨gb585, m5_, ha, Q_BK564, Q_BK565, Q_BK580, Q_HB, Q_BK585, Q_GW585, Q_GE585, Q_NB564_585, Q_NB585_564, Q_NB565_585, Q_NB585_565, Q_NB580_585, Q_NB585_580, Q_BK585_e6, Q_X5_⟩ hb_ hon hoff
                        refine ⟨_, rfl, fun K hK => ?_⟩
                        have e45 : a.tmps[45]? = some (.agg #[.int .i64 t573, .int .i64 t574, .int .i64 t575, .int .i64 t576, .int .i64 t577, .int .i64 t578]) := by rw [ha]; exact putSel_on (e := (0, 45, .agg #[.int .i64 t573, .int .i64 t574, .int .i64 t575, .int .i64 t576, .int .i64 t577, .int .i64 t578])) 0 rfl rfl (hon 0 (by kernel_rfl)) rfl
                        have e48 : a.tmps[48]? = some (.agg #[.int .i64 t581, .int .i64 t582]) := by rw [ha]; exact putSel_on (e := (3, 48, .agg #[.int .i64 t581, .int .i64 t582])) 3 rfl rfl (hon 3 (by kernel_rfl)) rfl
                        replace ha := Aside0.mk ha
                        have BK564 := Aside0.mk Q_BK564
                        have BK565 := Aside0.mk Q_BK565
                        have BK580 := Aside0.mk Q_BK580
                        have HB := Aside0.mk Q_HB
                        refine goes_ Try.func12 (by kernel_rfl) rfl #[.agg #[.int .i64 t573, .int .i64 t574, .int .i64 t575, .int .i64 t576, .int .i64 t577, .int .i64 t578], .agg #[.int .i64 t581, .int .i64 t582]] (by rfl) rfl rfl (by first | (simp only [List.map_toArray, List.map_cons, List.map_nil, Act.eval, Array.getD_eq_getD_getElem?, Option.getD_some, e45, e48]; done) | (simp only [List.map_toArray, List.map_cons, List.map_nil, Act.eval, Array.getD_eq_getD_getElem?, Option.getD_some, e45, e48]; rfl)) ?_
                        with_reducible refine (affine_Apply.calls kj21 t573 t574 t575 t576 t577 t578 t581 t582 t583 t584 _ A31.out).mono ?_
                        rintro e w49 ⟨rfl, hb⟩
                        refine ⟨_, rfl, ?_⟩
                        have n0_ := Aside0.mk (blk_below (g := gb564) (o := .cells #[.int .i64 a0_0, .int .i64 a0_1, .int .i64 a0_2, .int .i64 a0_3, .int .i64 a0_4, .int .i64 a0_5] 23 (0, 0)) (by (with_reducible repeat (first | refine blk_drewN ?_ _ | refine blk_drew ?_ | refine blk_alloc ?_ _)); exact BK564.out) hb)
                        have n1_ := Aside0.mk (blk_below (g := gb565) (o := .cells #[.int .i64 a1_0, .int .i64 a1_1] 25 (0, 0)) (by (with_reducible repeat (first | refine blk_drewN ?_ _ | refine blk_drew ?_ | refine blk_alloc ?_ _)); exact BK565.out) hb)
                        have n2_ := Aside0.mk (blk_below (g := gb580) (o := .cells #[.int .i64 t573, .int .i64 t574, .int .i64 t575, .int .i64 t576, .int .i64 t577, .int .i64 t578] 23 (0, 0)) (by (with_reducible repeat (first | refine blk_drewN ?_ _ | refine blk_drew ?_ | refine blk_alloc ?_ _)); exact BK580.out) hb)
                        have n3_ := Aside0.mk (below_step (by repeat (first | (with_reducible first | exact HB.out | apply below_alloc | apply pw_below_drewN | apply below_drew1 | refine below_set ?_ GE564.out | refine below_set ?_ GE565.out | refine below_set ?_ GE580.out) | exact HB.out)) hb)
                        have z_BK585 := fun (h0_ : b 5 = true) (h1_ : b 6 = false) => (show w49.heap[gb585]? = some (.cells #[.int .i64 0, .int .i64 0] 25 (0, 0)) from by first | exact (blk_below (g := gb585) (o := .cells #[.int .i64 0, .int .i64 0] 25 (0, 0)) (by (with_reducible repeat (first | refine blk_drewN ?_ _ | refine blk_drew ?_ | refine blk_alloc ?_ _)); exact (Q_BK585 h0_ h1_)) hb))
                        clear BK564
                        clear BK565
                        clear BK580
                        clear HB
                        have BK564 := n0_
                        have BK565 := n1_
                        have BK580 := n2_
                        have HB := n3_
                        clear n0_ n1_ n2_ n3_
                        (try clear hb)
                        (try clear hb2)
                        (try clear hk)
                        (try clear hi)
                        refine hK.out _ _ ⟨gb585, m5_, (by rw [ha.out]; exact putSel_upk 4 hb_ rfl rfl rfl), (by (with_reducible repeat (first | refine blk_drewN ?_ _ | refine blk_drew ?_ | refine blk_alloc ?_ _)); exact BK564.out), (by (with_reducible repeat (first | refine blk_drewN ?_ _ | refine blk_drew ?_ | refine blk_alloc ?_ _)); exact BK565.out), (by (with_reducible repeat (first | refine blk_drewN ?_ _ | refine blk_drew ?_ | refine blk_alloc ?_ _)); exact BK580.out), (by repeat (first | (with_reducible first | exact HB.out | apply below_alloc | apply pw_below_drewN | apply below_drew1 | refine below_set ?_ GE564.out | refine below_set ?_ GE565.out | refine below_set ?_ GE580.out) | exact HB.out)), z_BK585, Q_GW585, Q_GE585, Q_NB564_585, Q_NB585_564, Q_NB565_585, Q_NB585_565, Q_NB580_585, Q_NB585_580, fun h0_ => absurd ((hoff 6 (by kernel_rfl)).symm.trans h0_) (by decide), Q_X5_⟩
                      refine steps_cons ?_ ?_
                      · rintro b a w' ⟨gb585, m5_, ha, Q_BK564, Q_BK565, Q_BK580, Q_HB, Q_BK585, Q_GW585, Q_GE585, Q_NB564_585, Q_NB585_564, Q_NB565_585, Q_NB585_565, Q_NB580_585, Q_NB585_580, Q_BK585_e6, Q_X5_⟩ hb_ hon hoff
                        refine ⟨_, rfl, fun K hK => ?_⟩
                        replace ha := Aside0.mk ha
                        have BK564 := Aside0.mk Q_BK564
                        have BK565 := Aside0.mk Q_BK565
                        have BK580 := Aside0.mk Q_BK580
                        have HB := Aside0.mk Q_HB
                        refine box_step ?hg (N := 8) ?hd (cs := #[.int .i64 0, .int .i64 0]) (t := 25) ?hr ?_; (case hd => rfl); (case hg => rfl); (case hr => first | (go_simp; done) | (go_simp; rfl))
                        intro gb585 hg w47 hbox hb
                        have n0_ := Aside0.mk (blk_below (g := gb564) (o := .cells #[.int .i64 a0_0, .int .i64 a0_1, .int .i64 a0_2, .int .i64 a0_3, .int .i64 a0_4, .int .i64 a0_5] 23 (0, 0)) (by (with_reducible repeat (first | refine blk_drewN ?_ _ | refine blk_drew ?_ | refine blk_alloc ?_ _)); exact BK564.out) hb)
                        have n1_ := Aside0.mk (blk_below (g := gb565) (o := .cells #[.int .i64 a1_0, .int .i64 a1_1] 25 (0, 0)) (by (with_reducible repeat (first | refine blk_drewN ?_ _ | refine blk_drew ?_ | refine blk_alloc ?_ _)); exact BK565.out) hb)
                        have n2_ := Aside0.mk (blk_below (g := gb580) (o := .cells #[.int .i64 t573, .int .i64 t574, .int .i64 t575, .int .i64 t576, .int .i64 t577, .int .i64 t578] 23 (0, 0)) (by (with_reducible repeat (first | refine blk_drewN ?_ _ | refine blk_drew ?_ | refine blk_alloc ?_ _)); exact BK580.out) hb)
                        have n3_ := Aside0.mk (below_step (by repeat (first | (with_reducible first | exact HB.out | apply below_alloc | apply pw_below_drewN | apply below_drew1 | refine below_set ?_ GE564.out | refine below_set ?_ GE565.out | refine below_set ?_ GE580.out) | exact HB.out)) hb)
                        have n4_ := Aside0.mk (hbox)
                        have n5_ := Aside0.mk ((by rw [hg]; exact (below_size (by repeat (first | (with_reducible first | exact HB.out | apply below_alloc | apply pw_below_drewN | apply below_drew1 | refine below_set ?_ GE564.out | refine below_set ?_ GE565.out | refine below_set ?_ GE580.out) | exact HB.out))) : w.heap.size ≤ gb585))
                        have n6_ := Aside0.mk ((by rw [hg]; exact (below_size (by repeat (first | (with_reducible first | exact HB.out | apply below_alloc | apply pw_below_drewN | apply below_drew1 | refine below_set ?_ GE564.out | refine below_set ?_ GE565.out | refine below_set ?_ GE580.out) | exact HB.out))) : w.heap.size ≤ gb585))
                        have n7_ := Aside0.mk ((by rw [hg]; exact Nat.ne_of_lt (blk_lt (g := gb564) (o := .cells #[.int .i64 a0_0, .int .i64 a0_1, .int .i64 a0_2, .int .i64 a0_3, .int .i64 a0_4, .int .i64 a0_5] 23 (0, 0)) (by (with_reducible repeat (first | refine blk_drewN ?_ _ | refine blk_drew ?_ | refine blk_alloc ?_ _)); exact BK564.out)) : gb564 ≠ gb585))
                        have n8_ := Aside0.mk ((by rw [hg]; exact Nat.ne_of_gt (blk_lt (g := gb564) (o := .cells #[.int .i64 a0_0, .int .i64 a0_1, .int .i64 a0_2, .int .i64 a0_3, .int .i64 a0_4, .int .i64 a0_5] 23 (0, 0)) (by (with_reducible repeat (first | refine blk_drewN ?_ _ | refine blk_drew ?_ | refine blk_alloc ?_ _)); exact BK564.out)) : gb585 ≠ gb564))
                        have n9_ := Aside0.mk ((by rw [hg]; exact Nat.ne_of_lt (blk_lt (g := gb565) (o := .cells #[.int .i64 a1_0, .int .i64 a1_1] 25 (0, 0)) (by (with_reducible repeat (first | refine blk_drewN ?_ _ | refine blk_drew ?_ | refine blk_alloc ?_ _)); exact BK565.out)) : gb565 ≠ gb585))
                        have n10_ := Aside0.mk ((by rw [hg]; exact Nat.ne_of_gt (blk_lt (g := gb565) (o := .cells #[.int .i64 a1_0, .int .i64 a1_1] 25 (0, 0)) (by (with_reducible repeat (first | refine blk_drewN ?_ _ | refine blk_drew ?_ | refine blk_alloc ?_ _)); exact BK565.out)) : gb585 ≠ gb565))
                        have n11_ := Aside0.mk ((by rw [hg]; exact Nat.ne_of_lt (blk_lt (g := gb580) (o := .cells #[.int .i64 t573, .int .i64 t574, .int .i64 t575, .int .i64 t576, .int .i64 t577, .int .i64 t578] 23 (0, 0)) (by (with_reducible repeat (first | refine blk_drewN ?_ _ | refine blk_drew ?_ | refine blk_alloc ?_ _)); exact BK580.out)) : gb580 ≠ gb585))
                        have n12_ := Aside0.mk ((by rw [hg]; exact Nat.ne_of_gt (blk_lt (g := gb580) (o := .cells #[.int .i64 t573, .int .i64 t574, .int .i64 t575, .int .i64 t576, .int .i64 t577, .int .i64 t578] 23 (0, 0)) (by (with_reducible repeat (first | refine blk_drewN ?_ _ | refine blk_drew ?_ | refine blk_alloc ?_ _)); exact BK580.out)) : gb585 ≠ gb580))
                        clear BK564
                        clear BK565
                        clear BK580
                        clear HB
                        have BK564 := n0_
                        have BK565 := n1_
                        have BK580 := n2_
                        have HB := n3_
                        have BK585 := n4_
                        have GW585 := n5_
                        have GE585 := n6_
                        have NB564_585 := n7_
                        have NB585_564 := n8_
                        have NB565_585 := n9_
                        have NB585_565 := n10_
                        have NB580_585 := n11_
                        have NB585_580 := n12_
                        clear n0_ n1_ n2_ n3_ n4_ n5_ n6_ n7_ n8_ n9_ n10_ n11_ n12_
                        clear hb hbox hg
                        refine hK.out _ _ ⟨gb585, (.pointer (some ⟨gb585, 0, none⟩)), (by rw [ha.out]; exact putSel_upk 5 hb_ rfl rfl rfl), (by (with_reducible repeat (first | refine blk_drewN ?_ _ | refine blk_drew ?_ | refine blk_alloc ?_ _)); exact BK564.out), (by (with_reducible repeat (first | refine blk_drewN ?_ _ | refine blk_drew ?_ | refine blk_alloc ?_ _)); exact BK565.out), (by (with_reducible repeat (first | refine blk_drewN ?_ _ | refine blk_drew ?_ | refine blk_alloc ?_ _)); exact BK580.out), (by repeat (first | (with_reducible first | exact HB.out | apply below_alloc | apply pw_below_drewN | apply below_drew1 | refine below_set ?_ GE564.out | refine below_set ?_ GE565.out | refine below_set ?_ GE580.out | refine below_set ?_ GE585.out) | exact HB.out)), fun _ _ => (by (with_reducible repeat (first | refine blk_drewN ?_ _ | refine blk_drew ?_ | refine blk_alloc ?_ _)); exact BK585.out), fun _ => GW585.out, fun _ => GE585.out, fun _ => NB564_585.out, fun _ => NB585_564.out, fun _ => NB565_585.out, fun _ => NB585_565.out, fun _ => NB580_585.out, fun _ => NB585_580.out, fun h0_ => absurd ((hoff 6 (by kernel_rfl)).symm.trans h0_) (by decide), fun _ => rfl⟩
                      refine steps_cons ?_ ?_
                      · rintro b a w' ⟨gb585, m5_, ha, Q_BK564, Q_BK565, Q_BK580, Q_HB, Q_BK585, Q_GW585, Q_GE585, Q_NB564_585, Q_NB585_564, Q_NB565_585, Q_NB585_565, Q_NB580_585, Q_NB585_580, Q_BK585_e6, Q_X5_⟩ hb_ hon hoff
                        refine ⟨_, rfl, fun K hK => ?_⟩
                        have e8 : a.tmps[8]? = some (m5_) := by rw [ha]; exact putSel_on (e := (5, 8, m5_)) 5 rfl rfl (hon 5 (by kernel_rfl)) rfl
                        rw [Q_X5_ (hon 5 (by kernel_rfl))] at e8
                        have e49 : a.tmps[49]? = some (.agg #[.int .i64 t583, .int .i64 t584]) := by rw [ha]; exact putSel_on (e := (4, 49, .agg #[.int .i64 t583, .int .i64 t584])) 4 rfl rfl (hon 4 (by kernel_rfl)) rfl
                        replace ha := Aside0.mk ha
                        have BK564 := Aside0.mk Q_BK564
                        have BK565 := Aside0.mk Q_BK565
                        have BK580 := Aside0.mk Q_BK580
                        have HB := Aside0.mk Q_HB
                        have BK585 := Aside0.mk (Q_BK585 (hon 5 (by kernel_rfl)) hb_)
                        have GW585 := Aside0.mk (Q_GW585 (hon 5 (by kernel_rfl)))
                        have GE585 := Aside0.mk (Q_GE585 (hon 5 (by kernel_rfl)))
                        have NB564_585 := Aside0.mk (Q_NB564_585 (hon 5 (by kernel_rfl)))
                        have NB585_564 := Aside0.mk (Q_NB585_564 (hon 5 (by kernel_rfl)))
                        have NB565_585 := Aside0.mk (Q_NB565_585 (hon 5 (by kernel_rfl)))
                        have NB585_565 := Aside0.mk (Q_NB585_565 (hon 5 (by kernel_rfl)))
                        have NB580_585 := Aside0.mk (Q_NB580_585 (hon 5 (by kernel_rfl)))
                        have NB585_580 := Aside0.mk (Q_NB585_580 (hon 5 (by kernel_rfl)))
                        have hs51 : w'.cell? ⟨gb585, 0, none⟩ = some (.int .i64 0) := (blk_cell BK585.out 0).trans rfl
                        have hfs51 := blk_frozen BK585.out 0
                        have hns51_0 := NB564_585.out
                        have hns51_1 := NB565_585.out
                        have hns51_2 := NB580_585.out
                        have hms51_0 := NB585_564.out
                        have hms51_1 := NB585_565.out
                        have hms51_2 := NB585_580.out
                        have hs52 : w'.cell? ⟨gb585, 1, none⟩ = some (.int .i64 0) := (blk_cell BK585.out 1).trans rfl
                        have hfs52 := blk_frozen BK585.out 1
                        have hns52_0 := NB564_585.out
                        have hns52_1 := NB565_585.out
                        have hns52_2 := NB580_585.out
                        have hms52_0 := NB585_564.out
                        have hms52_1 := NB585_565.out
                        have hms52_2 := NB585_580.out
                        refine skip_ (w1 := ?_) (by rfl) rfl ?_ ?_
                        rotate_left
                        · go_simp
                          rfl
                        refine hK.out _ _ ⟨gb585, m5_, (by rw [ha.out]; exact putSel_none (v := undef) rfl), (by (with_reducible repeat (first | refine blk_drewN ?_ _ | refine blk_drew ?_ | refine blk_alloc ?_ _)); refine blk_far ?_ NB564_585.out _; (with_reducible repeat (first | refine blk_drewN ?_ _ | refine blk_drew ?_ | refine blk_alloc ?_ _)); refine blk_far ?_ NB564_585.out _; (with_reducible repeat (first | refine blk_drewN ?_ _ | refine blk_drew ?_ | refine blk_alloc ?_ _)); exact BK564.out), (by (with_reducible repeat (first | refine blk_drewN ?_ _ | refine blk_drew ?_ | refine blk_alloc ?_ _)); refine blk_far ?_ NB565_585.out _; (with_reducible repeat (first | refine blk_drewN ?_ _ | refine blk_drew ?_ | refine blk_alloc ?_ _)); refine blk_far ?_ NB565_585.out _; (with_reducible repeat (first | refine blk_drewN ?_ _ | refine blk_drew ?_ | refine blk_alloc ?_ _)); exact BK565.out), (by (with_reducible repeat (first | refine blk_drewN ?_ _ | refine blk_drew ?_ | refine blk_alloc ?_ _)); refine blk_far ?_ NB580_585.out _; (with_reducible repeat (first | refine blk_drewN ?_ _ | refine blk_drew ?_ | refine blk_alloc ?_ _)); refine blk_far ?_ NB580_585.out _; (with_reducible repeat (first | refine blk_drewN ?_ _ | refine blk_drew ?_ | refine blk_alloc ?_ _)); exact BK580.out), (by repeat (first | (with_reducible first | exact HB.out | apply below_alloc | apply pw_below_drewN | apply below_drew1 | refine below_set ?_ GE564.out | refine below_set ?_ GE565.out | refine below_set ?_ GE580.out | refine below_set ?_ GE585.out) | exact HB.out)), fun _ h1_ => absurd ((up_self b 6).symm.trans h1_) (by decide), fun _ => GW585.out, fun _ => GE585.out, fun _ => NB564_585.out, fun _ => NB585_564.out, fun _ => NB565_585.out, fun _ => NB585_565.out, fun _ => NB580_585.out, fun _ => NB585_580.out, fun _ => (by (with_reducible repeat (first | refine blk_drewN ?_ _ | refine blk_drew ?_ | refine blk_alloc ?_ _)); refine blk_put (cs := #[.int .i64 t583, .int .i64 0]) ?_ 1 _ rfl; (with_reducible repeat (first | refine blk_drewN ?_ _ | refine blk_drew ?_ | refine blk_alloc ?_ _)); refine blk_put (cs := #[.int .i64 0, .int .i64 0]) ?_ 0 _ rfl; (with_reducible repeat (first | refine blk_drewN ?_ _ | refine blk_drew ?_ | refine blk_alloc ?_ _)); exact BK585.out), Q_X5_⟩
                      exact steps_nil
                    rintro b a w52 hall ⟨gb585, m5_, ha, Q_BK564, Q_BK565, Q_BK580, Q_HB, Q_BK585, Q_GW585, Q_GE585, Q_NB564_585, Q_NB585_564, Q_NB565_585, Q_NB585_565, Q_NB580_585, Q_NB585_580, Q_BK585_e6, Q_X5_⟩
                    clear BK564 BK565 BK580 HB
                    have hb0_ := hall 0 (by kernel_rfl)
                    have hb1_ := hall 1 (by kernel_rfl)
                    have hb2_ := hall 2 (by kernel_rfl)
                    have hb3_ := hall 3 (by kernel_rfl)
                    have hb4_ := hall 4 (by kernel_rfl)
                    have hb5_ := hall 5 (by kernel_rfl)
                    have hb6_ := hall 6 (by kernel_rfl)
                    subst ha
                    obtain rfl := Q_X5_ hb5_
                    simp only [putSel, hb0_, hb1_, hb2_, hb3_, hb4_, hb5_, hb6_, if_true, Act.put, List.setIfInBounds_toArray, List.set_cons_zero, List.set_cons_succ]
                    have BK564 := Aside0.mk Q_BK564
                    clear Q_BK564
                    have BK565 := Aside0.mk Q_BK565
                    clear Q_BK565
                    have BK580 := Aside0.mk Q_BK580
                    clear Q_BK580
                    have HB := Aside0.mk Q_HB
                    clear Q_HB
                    clear Q_BK585
                    have GW585 := Aside0.mk (Q_GW585 hb5_)
                    clear Q_GW585
                    have GE585 := Aside0.mk (Q_GE585 hb5_)
                    clear Q_GE585
                    have NB564_585 := Aside0.mk (Q_NB564_585 hb5_)
                    clear Q_NB564_585
                    have NB585_564 := Aside0.mk (Q_NB585_564 hb5_)
                    clear Q_NB585_564
                    have NB565_585 := Aside0.mk (Q_NB565_585 hb5_)
                    clear Q_NB565_585
                    have NB585_565 := Aside0.mk (Q_NB585_565 hb5_)
                    clear Q_NB585_565
                    have NB580_585 := Aside0.mk (Q_NB580_585 hb5_)
                    clear Q_NB580_585
                    have NB585_580 := Aside0.mk (Q_NB585_580 hb5_)
                    clear Q_NB585_580
                    have BK585 := Aside0.mk (Q_BK585_e6 hb6_)
                    clear Q_BK585_e6
                    clear hall hb0_ hb1_ hb2_ hb3_ hb4_ hb5_ hb6_
                    have hnb53 := NB585_564.out
                    have hnc53 := NB564_585.out
                    have hnb54 := NB585_565.out
                    have hnc54 := NB565_585.out
                    have hnb55 := NB585_580.out
                    have hnc55 := NB580_585.out
                    have hcz56_0 : w52.cell? ⟨gb585, 0, none⟩ = some (.int .i64 t583) := (blk_cell BK585.out 0).trans rfl
                    have hcz56_1 : w52.cell? ⟨gb585, 1, none⟩ = some (.int .i64 t584) := (blk_cell BK585.out 1).trans rfl
                    have hfz56_0 := blk_frozen BK585.out 0
                    have hfz56_1 := blk_frozen BK585.out 1
                    try go_wp2_with (first | ((with_reducible refine gate_dst (N := 57) rfl ?_); (try (refine gate_grd (by rfl) ?_; dsimp only)); refine Kd.R_lit (Kd.int .i64) _ 3 ?hg (N := 57) ?hd (xs := ([t583, t584] : List Int)) (inner := [.int .i64 t583, .int .i64 t584]) (ok := fun _ => True) (okp := fun _ => True) ?hr ?hp (fun _ hk => hk) trivial (Below.refl _ _) (Nat.le_refl _) (by simp) ?_; (case hd => rfl); (case hg => rfl); (case hr => first | (go_simp; done) | (go_simp; rfl)); (case hp => exact (Reps.one (show Kd.M (Kd.int .i64) _ _ _ t583 [.int .i64 t583] from rfl) (Reps.one (show Kd.M (Kd.int .i64) _ _ _ t584 [.int .i64 t584] from rfl) (Reps.none _ _)))); intro v587 w57 ho58 hb hg_ hnew_; clear hg_ hnew_; (first | rw [← Ny586.out] at ho58 | (simp only [Int.reduceToNat] at ho58; rw [← Ny586.out] at ho58)); have n0_ := Aside0.mk (Kd.R_lower ho58 (below_size (by repeat (first | (with_reducible first | exact HB.out | apply below_alloc | apply pw_below_drewN | apply below_drew1 | refine below_set ?_ GE564.out | refine below_set ?_ GE565.out | refine below_set ?_ GE580.out | refine below_set ?_ GE585.out) | exact HB.out)))); have n1_ := Aside0.mk (blk_below (g := gb564) (o := .cells #[.int .i64 a0_0, .int .i64 a0_1, .int .i64 a0_2, .int .i64 a0_3, .int .i64 a0_4, .int .i64 a0_5] 23 (0, 0)) (by (with_reducible repeat (first | refine blk_drewN ?_ _ | refine blk_drew ?_ | refine blk_alloc ?_ _)); exact BK564.out) hb); have n2_ := Aside0.mk (blk_below (g := gb565) (o := .cells #[.int .i64 a1_0, .int .i64 a1_1] 25 (0, 0)) (by (with_reducible repeat (first | refine blk_drewN ?_ _ | refine blk_drew ?_ | refine blk_alloc ?_ _)); exact BK565.out) hb); have n3_ := Aside0.mk (blk_below (g := gb580) (o := .cells #[.int .i64 t573, .int .i64 t574, .int .i64 t575, .int .i64 t576, .int .i64 t577, .int .i64 t578] 23 (0, 0)) (by (with_reducible repeat (first | refine blk_drewN ?_ _ | refine blk_drew ?_ | refine blk_alloc ?_ _)); exact BK580.out) hb); have n4_ := Aside0.mk (blk_below (g := gb585) (o := .cells #[.int .i64 t583, .int .i64 t584] 25 (0, 0)) (by (with_reducible repeat (first | refine blk_drewN ?_ _ | refine blk_drew ?_ | refine blk_alloc ?_ _)); exact BK585.out) hb); have n5_ := Aside0.mk (below_step (by repeat (first | (with_reducible first | exact HB.out | apply below_alloc | apply pw_below_drewN | apply below_drew1 | refine below_set ?_ GE564.out | refine below_set ?_ GE565.out | refine below_set ?_ GE580.out | refine below_set ?_ GE585.out) | exact HB.out)) hb); clear BK564; clear BK565; clear BK580; clear BK585; clear HB; have HO588 := n0_; have BK564 := n1_; have BK565 := n2_; have BK580 := n3_; have BK585 := n4_; have HB := n5_; clear n0_ n1_ n2_ n3_ n4_ n5_; clear hb ho58; obtain ⟨Ao59, co59, eo59⟩ := Kd.R_slice HO588.out; subst eo59) | (go_at_call 25; (with_reducible refine (imageeditorlaw12_within.calls kj21 1099511627776 _ _ y586 true _ ?side1 ?side2 A33.out).mono ?_); (case side1 => repeat (first | exact (Kd.R_reads' HO588.out).2.2 | (with_reducible refine Kd.C_alloc ?_ _) | (with_reducible refine Kd.C_drewN ?_ _) | (with_reducible refine Kd.C_drew ?_))); (case side2 => exact (Kd.R_reads' HO588.out).2.1); rintro e w' ⟨rfl, ⟨nd, rfl⟩⟩; have hcz60_0 : w57.cell? ⟨gb585, 0, none⟩ = some (.int .i64 t583) := (blk_cell BK585.out 0).trans rfl; have hcz60_1 : w57.cell? ⟨gb585, 1, none⟩ = some (.int .i64 t584) := (blk_cell BK585.out 1).trans rfl; have hfz60_0 := blk_frozen BK585.out 0; have hfz60_1 := blk_frozen BK585.out 1; have hcz61_0 : w57.cell? ⟨gb565, 0, none⟩ = some (.int .i64 a1_0) := (blk_cell BK565.out 0).trans rfl; have hcz61_1 : w57.cell? ⟨gb565, 1, none⟩ = some (.int .i64 a1_1) := (blk_cell BK565.out 1).trans rfl; have hfz61_0 := blk_frozen BK565.out 0; have hfz61_1 := blk_frozen BK565.out 1) | ((with_reducible refine gate_dst (N := 71) rfl ?_); (try (refine gate_grd (by rfl) ?_; dsimp only)); refine Kd.R_lit (Kd.int .i64) _ 3 ?hg (N := 71) ?hd (xs := ([wrap64 (t583 - a1_0), wrap64 (t584 - a1_1)] : List Int)) (inner := [.int .i64 (wrap64 (t583 - a1_0)), .int .i64 (wrap64 (t584 - a1_1))]) (ok := fun _ => True) (okp := fun _ => True) ?hr ?hp (fun _ hk => hk) trivial (Below.refl _ _) (Nat.le_refl _) (by simp) ?_; (case hd => rfl); (case hg => rfl); (case hr => first | (go_simp; done) | (go_simp; rfl)); (case hp => exact (Reps.one (show Kd.M (Kd.int .i64) _ _ _ (wrap64 (t583 - a1_0)) [.int .i64 (wrap64 (t583 - a1_0))] from rfl) (Reps.one (show Kd.M (Kd.int .i64) _ _ _ (wrap64 (t584 - a1_1)) [.int .i64 (wrap64 (t584 - a1_1))] from rfl) (Reps.none _ _)))); intro v591 w62 ho63 hb hg_ hnew_; clear hg_ hnew_; (first | rw [← Ny590.out] at ho63 | (simp only [Int.reduceToNat] at ho63; rw [← Ny590.out] at ho63)); have n0_ := Aside0.mk (Kd.R_elder' (by (with_reducible repeat (first | apply Kd.R_alloc | apply Kd.R_drewN | apply Kd.R_drew)); exact HO588.out) (Kd.R_base ho63) hb); have n1_ := Aside0.mk (Kd.R_lower (Kd.R_new' ho63 (Kd.R_lt (by (with_reducible repeat (first | apply Kd.R_alloc | apply Kd.R_drewN | apply Kd.R_drew)); exact HO588.out))) (below_size (by repeat (first | (with_reducible first | exact HB.out | apply below_alloc | apply pw_below_drewN | apply below_drew1 | refine below_set ?_ GE564.out | refine below_set ?_ GE565.out | refine below_set ?_ GE580.out | refine below_set ?_ GE585.out) | exact HB.out)))); have n2_ := Aside0.mk (blk_below (g := gb564) (o := .cells #[.int .i64 a0_0, .int .i64 a0_1, .int .i64 a0_2, .int .i64 a0_3, .int .i64 a0_4, .int .i64 a0_5] 23 (0, 0)) (by (with_reducible repeat (first | refine blk_drewN ?_ _ | refine blk_drew ?_ | refine blk_alloc ?_ _)); exact BK564.out) hb); have n3_ := Aside0.mk (blk_below (g := gb565) (o := .cells #[.int .i64 a1_0, .int .i64 a1_1] 25 (0, 0)) (by (with_reducible repeat (first | refine blk_drewN ?_ _ | refine blk_drew ?_ | refine blk_alloc ?_ _)); exact BK565.out) hb); have n4_ := Aside0.mk (blk_below (g := gb580) (o := .cells #[.int .i64 t573, .int .i64 t574, .int .i64 t575, .int .i64 t576, .int .i64 t577, .int .i64 t578] 23 (0, 0)) (by (with_reducible repeat (first | refine blk_drewN ?_ _ | refine blk_drew ?_ | refine blk_alloc ?_ _)); exact BK580.out) hb); have n5_ := Aside0.mk (blk_below (g := gb585) (o := .cells #[.int .i64 t583, .int .i64 t584] 25 (0, 0)) (by (with_reducible repeat (first | refine blk_drewN ?_ _ | refine blk_drew ?_ | refine blk_alloc ?_ _)); exact BK585.out) hb); have n6_ := Aside0.mk (below_step (by repeat (first | (with_reducible first | exact HB.out | apply below_alloc | apply pw_below_drewN | apply below_drew1 | refine below_set ?_ GE564.out | refine below_set ?_ GE565.out | refine below_set ?_ GE580.out | refine below_set ?_ GE585.out) | exact HB.out)) hb); clear HO588; clear BK564; clear BK565; clear BK580; clear BK585; clear HB; have HO588 := n0_; have HO592 := n1_; have BK564 := n2_; have BK565 := n3_; have BK580 := n4_; have BK585 := n5_; have HB := n6_; clear n0_ n1_ n2_ n3_ n4_ n5_ n6_; clear hb ho63; obtain ⟨Ao64, co64, eo64⟩ := Kd.R_slice HO592.out; subst eo64) | (go_at_call 25; (with_reducible refine (imageeditorlaw12_within.calls kj21 4096 _ _ y590 true _ ?side1 ?side2 A35.out).mono ?_); (case side1 => repeat (first | exact (Kd.R_reads' HO592.out).2.2 | (with_reducible refine Kd.C_alloc ?_ _) | (with_reducible refine Kd.C_drewN ?_ _) | (with_reducible refine Kd.C_drew ?_))); (case side2 => exact (Kd.R_reads' HO592.out).2.1); rintro e w' ⟨rfl, ⟨nd, rfl⟩⟩) | (go_at_call 14; (with_reducible refine (imageeditorlaw12_awake.calls kj21  t594 _ A37.out).mono ?_); rintro e w65 ⟨rfl, hb⟩; have n0_ := Aside0.mk (Kd.R_below (by (with_reducible repeat (first | apply Kd.R_alloc | apply Kd.R_drewN | apply Kd.R_drew)); exact HO588.out) hb); have n1_ := Aside0.mk (Kd.R_below (by (with_reducible repeat (first | apply Kd.R_alloc | apply Kd.R_drewN | apply Kd.R_drew)); exact HO592.out) hb); have n2_ := Aside0.mk (blk_below (g := gb564) (o := .cells #[.int .i64 a0_0, .int .i64 a0_1, .int .i64 a0_2, .int .i64 a0_3, .int .i64 a0_4, .int .i64 a0_5] 23 (0, 0)) (by (with_reducible repeat (first | refine blk_drewN ?_ _ | refine blk_drew ?_ | refine blk_alloc ?_ _)); exact BK564.out) hb); have n3_ := Aside0.mk (blk_below (g := gb565) (o := .cells #[.int .i64 a1_0, .int .i64 a1_1] 25 (0, 0)) (by (with_reducible repeat (first | refine blk_drewN ?_ _ | refine blk_drew ?_ | refine blk_alloc ?_ _)); exact BK565.out) hb); have n4_ := Aside0.mk (blk_below (g := gb580) (o := .cells #[.int .i64 t573, .int .i64 t574, .int .i64 t575, .int .i64 t576, .int .i64 t577, .int .i64 t578] 23 (0, 0)) (by (with_reducible repeat (first | refine blk_drewN ?_ _ | refine blk_drew ?_ | refine blk_alloc ?_ _)); exact BK580.out) hb); have n5_ := Aside0.mk (blk_below (g := gb585) (o := .cells #[.int .i64 t583, .int .i64 t584] 25 (0, 0)) (by (with_reducible repeat (first | refine blk_drewN ?_ _ | refine blk_drew ?_ | refine blk_alloc ?_ _)); exact BK585.out) hb); have n6_ := Aside0.mk (below_step (by repeat (first | (with_reducible first | exact HB.out | apply below_alloc | apply pw_below_drewN | apply below_drew1 | refine below_set ?_ GE564.out | refine below_set ?_ GE565.out | refine below_set ?_ GE580.out | refine below_set ?_ GE585.out) | exact HB.out)) hb); clear HO588; clear HO592; clear BK564; clear BK565; clear BK580; clear BK585; clear HB; have HO588 := n0_; have HO592 := n1_; have BK564 := n2_; have BK565 := n3_; have BK580 := n4_; have BK585 := n5_; have HB := n6_; clear n0_ n1_ n2_ n3_ n4_ n5_ n6_; (try clear hb); (try clear hb2); (try clear hk); (try clear hi)))
                    go_ret
                    exact ⟨by first | rfl | (simp [errW_none, errW_some] <;> rfl) | (simp [*, errW_none, errW_some] <;> rfl), by repeat (first | (with_reducible first | exact HB.out | apply below_alloc | apply pw_below_drewN | apply below_drew1 | refine below_set ?_ GE564.out | refine below_set ?_ GE565.out | refine below_set ?_ GE580.out | refine below_set ?_ GE585.out) | exact HB.out)⟩
                  · replace c36 := Bool.eq_false_iff.mpr c36
                    subst c36
                    have H1 : (none) = some r := by rw [if_neg (show ¬ (false = true) by decide)] at H; exact H
                    clear H
                    have H := H1
                    clear H1
                    exact absurd H (by simp)
                · replace c34 := Bool.eq_false_iff.mpr c34
                  subst c34
                  have H1 : (none) = some r := by rw [if_neg (show ¬ (false = true) by decide)] at H; exact H
                  clear H
                  have H := H1
                  clear H1
                  exact absurd H (by simp)
              · rw [if_neg c32] at H
                exact absurd H (by simp)


end Go.Proofs.Ytgciphmmfbgkeaa.Q
