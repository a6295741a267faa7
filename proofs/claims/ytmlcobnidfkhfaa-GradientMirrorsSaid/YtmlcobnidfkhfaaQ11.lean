/- Each Go function of the law as a Lean function, with the proof that its call comes to just that, for every input; written by hp.py, a program of this session over the kit own print of the translation. -/
import Derived.Test.YtmlcobnidfkhfaaQ0
import Derived.Test.YtmlcobnidfkhfaaQ4
import Derived.Test.YtmlcobnidfkhfaaQ10
namespace Go.Proofs.Ytmlcobnidfkhfaa.Q
open Go.RowKit Go.Proofs.YtmlcobnidfkhfaaW.PrintWords Go.Proofs.YtmlcobnidfkhfaaW.PrintLast Go.Proofs.YtmlcobnidfkhfaaW.PrintMore
attribute [local go_sem] max2_int min2_int max_two min_two max_three min_three max_four min_four   -- for this text's walks alone
set_option linter.unusedVariables false
set_option linter.unusedSimpArgs false
open Go.Proofs.Ytmlcobnidfkhfaa.Clo Go.Proofs.Ytmlcobnidfkhfaa.Mk0

/-! ### gradient_color: function 29 -/
mutual
def gradient_color.l0 : Nat → List (S47) → Int → List (S47) → Int → Int → Int → Int → Int → Int → Option (Int × Int × Int × Int)
 | 0, _, _, _, _, _, _, _, _, _ => none
 | k + 1, x0, x1, x16, x17, x18, x238000, x238001, x238002, x238003 => if x18 < x17 then (if 0 ≤ x18 then (if x18 < (x16.length : Int) then (if x1 > ((rd_T47 x16 x18).f0) then (gradient_color.l0 k x0 x1 x16 x17 (wrap64 (x18 + 1)) x238000 x238001 x238002 x238003) else (if x18 > 0 then (gradient_color.j1 k x0 x1 x18 (decide (x1 < ((rd_T47 x16 x18).f0))) ((rd_T47 x16 x18).f1.f0) ((rd_T47 x16 x18).f1.f1) ((rd_T47 x16 x18).f1.f2) ((rd_T47 x16 x18).f1.f3) ((rd_T47 x16 x18).f0) ((rd_T47 x16 x18).f1.f0) ((rd_T47 x16 x18).f1.f1) ((rd_T47 x16 x18).f1.f2) ((rd_T47 x16 x18).f1.f3)) else (gradient_color.j1 k x0 x1 x18 false ((rd_T47 x16 x18).f1.f0) ((rd_T47 x16 x18).f1.f1) ((rd_T47 x16 x18).f1.f2) ((rd_T47 x16 x18).f1.f3) ((rd_T47 x16 x18).f0) ((rd_T47 x16 x18).f1.f0) ((rd_T47 x16 x18).f1.f1) ((rd_T47 x16 x18).f1.f2) ((rd_T47 x16 x18).f1.f3)))) else (none)) else (none)) else (if x238003 = 0 then (some (0, 0, 0, 0)) else (some (x238000, x238001, x238002, x238003)))
def gradient_color.j1 : Nat → List (S47) → Int → Int → Bool → Int → Int → Int → Int → Int → Int → Int → Int → Int → Option (Int × Int × Int × Int)
 | 0, _, _, _, _, _, _, _, _, _, _, _, _, _ => none
 | k + 1, x0, x1, x6, x36, x238000, x238001, x238002, x238003, x240000, x240001, x240002, x240003, x240004 => if x36 = true then (if 0 ≤ (wrap64 (x6 - 1)) then (if (wrap64 (x6 - 1)) < (x0.length : Int) then ((num_Div.f k (wrap64 (65535 * (wrap64 (x1 - ((rd_T47 x0 (wrap64 (x6 - 1))).f0))))) (wrap64 (x240000 - ((rd_T47 x0 (wrap64 (x6 - 1))).f0)))).bind fun t242 => ((pixel_Mix.f k ((rd_T47 x0 (wrap64 (x6 - 1))).f1.f0) ((rd_T47 x0 (wrap64 (x6 - 1))).f1.f1) ((rd_T47 x0 (wrap64 (x6 - 1))).f1.f2) ((rd_T47 x0 (wrap64 (x6 - 1))).f1.f3) x240001 x240002 x240003 x240004 t242).bind fun bt243 => (if bt243.2.2.2 = 0 then (some (0, 0, 0, 0)) else (some (bt243.1, bt243.2.1, bt243.2.2.1, bt243.2.2.2))))) else (none)) else (none)) else (if x238003 = 0 then (some (0, 0, 0, 0)) else (some (x238000, x238001, x238002, x238003)))
end
def gradient_color.f (k : Nat) (l0 : List (S47)) (a1 : Int) : Option (Int × Int × Int × Int) := if 0 ≤ (wrap64 ((l0.length : Int) - 1)) then (if (wrap64 ((l0.length : Int) - 1)) < (l0.length : Int) then (gradient_color.l0 k l0 a1 l0 (l0.length : Int) 0 ((rd_T47 l0 (wrap64 ((l0.length : Int) - 1))).f1.f0) ((rd_T47 l0 (wrap64 ((l0.length : Int) - 1))).f1.f1) ((rd_T47 l0 (wrap64 ((l0.length : Int) - 1))).f1.f2) ((rd_T47 l0 (wrap64 ((l0.length : Int) - 1))).f1.f3)) else (none)) else (none)
theorem gradient_color.mono_l : ∀ k, (∀ y0 y1 y2 y3 y4 y5 y6 y7 y8, LeO (gradient_color.l0 k y0 y1 y2 y3 y4 y5 y6 y7 y8) (gradient_color.l0 (k + 1) y0 y1 y2 y3 y4 y5 y6 y7 y8)) ∧ (∀ y0 y1 y2 y3 y4 y5 y6 y7 y8 y9 y10 y11 y12, LeO (gradient_color.j1 k y0 y1 y2 y3 y4 y5 y6 y7 y8 y9 y10 y11 y12) (gradient_color.j1 (k + 1) y0 y1 y2 y3 y4 y5 y6 y7 y8 y9 y10 y11 y12))
 | 0 => ⟨fun _ _ _ _ _ _ _ _ _ r h => by simp [gradient_color.l0] at h, fun _ _ _ _ _ _ _ _ _ _ _ _ _ r h => by simp [gradient_color.j1] at h⟩
 | k + 1 => by
  obtain ⟨ih0, ih1⟩ := gradient_color.mono_l k
  refine ⟨?_, ?_⟩
  ·intro y0 y1 y2 y3 y4 y5 y6 y7 y8
   unfold gradient_color.l0
   repeat' first
   | (with_reducible exact ih0 _ _ _ _ _ _ _ _ _)
   | (with_reducible exact ih1 _ _ _ _ _ _ _ _ _ _ _ _ _)
   | (with_reducible exact num_Div.mono _ _ _)
   | (with_reducible exact pixel_Mix.mono _ _ _ _ _ _ _ _ _ _)
   | (with_reducible exact LeO.refl _)
   | (with_reducible exact LeO.none _)
   | (with_reducible refine LeO.ite ?_ ?_)
   | (with_reducible refine LeO.bind ?_ (fun _ => ?_))
  ·intro y0 y1 y2 y3 y4 y5 y6 y7 y8 y9 y10 y11 y12
   unfold gradient_color.j1
   repeat' first
   | (with_reducible exact ih0 _ _ _ _ _ _ _ _ _)
   | (with_reducible exact ih1 _ _ _ _ _ _ _ _ _ _ _ _ _)
   | (with_reducible exact num_Div.mono _ _ _)
   | (with_reducible exact pixel_Mix.mono _ _ _ _ _ _ _ _ _ _)
   | (with_reducible exact LeO.refl _)
   | (with_reducible exact LeO.none _)
   | (with_reducible refine LeO.ite ?_ ?_)
   | (with_reducible refine LeO.bind ?_ (fun _ => ?_))
theorem gradient_color.mono : ∀ a0 a1 k, LeO (gradient_color.f k a0 a1) (gradient_color.f (k + 1) a0 a1) := by
 intro a0 a1 k
 obtain ⟨ih0, ih1⟩ := gradient_color.mono_l k
 unfold gradient_color.f
 repeat' first
   | (with_reducible exact ih0 _ _ _ _ _ _ _ _ _)
   | (with_reducible exact ih1 _ _ _ _ _ _ _ _ _ _ _ _ _)
   | (with_reducible exact num_Div.mono _ _ _)
   | (with_reducible exact pixel_Mix.mono _ _ _ _ _ _ _ _ _ _)
   | (with_reducible exact LeO.refl _)
   | (with_reducible exact LeO.none _)
   | (with_reducible refine LeO.ite ?_ ?_)
   | (with_reducible refine LeO.bind ?_ (fun _ => ?_))
def gradient_color.T9 : Bool × List (List Nat × List Nat) := (true, [([], []), ([0], [0]), ([], []), ([2], [2]), ([], []), ([], []), ([5], [5]), ([4, 6], [4, 6]), ([7], [7]), ([], []), ([9], [9]), ([], []), ([11], [11]), ([10, 12], [10, 12]), ([8, 13], [8, 13]), ([1, 3, 14, 14], [1, 3, 14]), ([15, 15, 0, 1, 2, 3, 4, 5, 6, 7, 8, 9, 10, 11, 12, 13, 14, 15], [15])])
def gradient_color.B9 : List Nat := [0, 1, 0, 4, 0, 0, 32, 112, 240, 0, 512, 0, 2048, 7680, 16368, 32767, 65535]
theorem gradient_color.tab9 : rtab .any (opsOf Try.f29 9) = gradient_color.T9 := by kernel_rfl
theorem gradient_color.bits9 : waitsOk gradient_color.T9.2 gradient_color.B9 = true := by kernel_rfl
set_option maxHeartbeats 8000000 in
set_option maxRecDepth 100000 in
theorem gradient_color.calls (k : Nat) (A0 : Option Addr) (c0 : Nat) (l0 : List (S47)) (a1 : Int) (r1 : Int) (r2 : Int) (r3 : Int) (r4 : Int) (w : World) (hr0 : Kd.C k47 w A0 l0.length l0) (hc0 : l0.length ≤ c0) (h : gradient_color.f k l0 a1 = some (r1, r2, r3, r4)) :
  Calls Try.prog 29 #[.slice A0 l0.length c0, .int .i64 a1] w fun e w' => e = .returned (.agg #[.int .i64 r1, .int .i64 r2, .int .i64 r3, .int .i64 r4]) ∧ Below w.heap.size w w' := by
 have hu38 := Try.underlying38
 have hu47 := Try.underlying47
 have HR0 := Aside0.mk hr0
 have HC0 := Aside0.mk hc0
 clear hr0 hc0
 have HB := Aside0.mk (Below.refl w.heap.size w)
 have H : (if 0 ≤ (wrap64 ((l0.length : Int) - 1)) then (if (wrap64 ((l0.length : Int) - 1)) < (l0.length : Int) then (gradient_color.l0 k l0 a1 l0 (l0.length : Int) 0 ((rd_T47 l0 (wrap64 ((l0.length : Int) - 1))).f1.f0) ((rd_T47 l0 (wrap64 ((l0.length : Int) - 1))).f1.f1) ((rd_T47 l0 (wrap64 ((l0.length : Int) - 1))).f1.f2) ((rd_T47 l0 (wrap64 ((l0.length : Int) - 1))).f1.f3)) else (none)) else (none)) = some (r1, r2, r3, r4) := h
 clear h
 obtain ⟨ji3, hji3⟩ : ∃ j_ : Int, (wrap64 ((l0.length : Int) - 1)) = j_ := ⟨_, rfl⟩
 replace H : (if 0 ≤ (ji3) then (if (ji3) < (l0.length : Int) then (gradient_color.l0 k l0 a1 l0 (l0.length : Int) 0 ((rd_T47 l0 (ji3)).f1.f0) ((rd_T47 l0 (ji3)).f1.f1) ((rd_T47 l0 (ji3)).f1.f2) ((rd_T47 l0 (ji3)).f1.f3)) else (none)) else (none)) = some (r1, r2, r3, r4) := by first | (rw [hji3] at H; exact H) | (simp only [hji3] at H ⊢; exact H)
 have hji3w : (IntKind.i64.wrap ((l0.length : Int) - 1)) = ji3 := (i64_w _).trans hji3
 by_cases c4 : 0 ≤ (ji3)
 ·rw [if_pos c4] at H
  have c4b0 : decide (0 ≤ (ji3)) = true := decide_eq_true c4
  clear c4
  by_cases c5 : (ji3) < (l0.length : Int)
  ·rw [if_pos c5] at H
   have c5b0 : decide ((ji3) < (l0.length : Int)) = true := decide_eq_true c5
   clear c5
   have H' := Aside0.mk H
   clear H
   go_enter Try.func29, Try.ntmps29
   go_wp2_with (first | ((with_reducible refine gate_dst (N := 4) rfl ?_); refine box_event ?hg (N := 4) ?hd (cs := #[.int .i64 0, .int .i64 0, .int .i64 0, .int .i64 0]) (t := 38) ?hr ?_; (case hd => rfl); (case hg => rfl); (case hr => first | (go_simp; done) | (go_simp; rfl)); intro gb235 hg w6 hbox hb; have n0_ := Aside0.mk (below_step (by repeat (first | (with_reducible first | exact HB.out | apply lA_ | apply lN_ | apply lD_) | exact HB.out)) hb); have n1_ := Aside0.mk (hbox); have n2_ := Aside0.mk ((by rw [hg]; exact (below_size (by repeat (first | (with_reducible first | exact HB.out | apply lA_ | apply lN_ | apply lD_) | exact HB.out))) : w.heap.size ≤ gb235)); have n3_ := Aside0.mk ((by rw [hg]; exact (below_size (by repeat (first | (with_reducible first | exact HB.out | apply lA_ | apply lN_ | apply lD_) | exact HB.out))) : w.heap.size ≤ gb235)); clear HB; have HB := n0_; have BK235 := n1_; have GW235 := n2_; have GE235 := n3_; clear n0_ n1_ n2_ n3_; clear hb hbox hg; have p236 : 0 ≤ ((ji3) : Int) := of_decide_eq_true (by first | (with_reducible assumption) | assumption); have q236 : (ji3) < (l0.length : Int) := of_decide_eq_true (by first | (with_reducible assumption) | assumption); obtain ⟨ad236, e236, hx236_0, hx236_1, hx236_2, hx236_3, hx236_4⟩ := at_T47 HR0.out (ji3) p236 q236; cases e236; replace hx236_0 := (HB.out.cell (World.block_lt_of_cell? w _ hx236_0)).trans hx236_0; replace hx236_1 := (HB.out.cell (World.block_lt_of_cell? w _ hx236_1)).trans hx236_1; replace hx236_2 := (HB.out.cell (World.block_lt_of_cell? w _ hx236_2)).trans hx236_2; replace hx236_3 := (HB.out.cell (World.block_lt_of_cell? w _ hx236_3)).trans hx236_3; replace hx236_4 := (HB.out.cell (World.block_lt_of_cell? w _ hx236_4)).trans hx236_4; replace p236 := eq_true p236; replace q236 := eq_true q236) | ((with_reducible refine gate_dst (N := 5) rfl ?_); refine box_event ?hg (N := 5) ?hd (cs := #[.int .i64 0, .int .i64 0, .int .i64 0, .int .i64 0]) (t := 38) ?hr ?_; (case hd => rfl); (case hg => rfl); (case hr => first | (go_simp; done) | (go_simp; rfl)); intro gb237 hg w7 hbox hb; have n0_ := Aside0.mk (blk_below (g := gb235) (o := .cells #[.int .i64 0, .int .i64 0, .int .i64 0, .int .i64 0] 38 (0, 0)) (by (with_reducible repeat (first | refine bN_ ?_ _ | refine bD_ ?_ | refine bA_ ?_ _)); exact BK235.out) hb); have n1_ := Aside0.mk (below_step (by repeat (first | (with_reducible first | exact HB.out | apply lA_ | apply lN_ | apply lD_ | refine lS_ ?_ GE235.out) | exact HB.out)) hb); have n2_ := Aside0.mk (hbox); have n3_ := Aside0.mk ((by rw [hg]; exact (below_size (by repeat (first | (with_reducible first | exact HB.out | apply lA_ | apply lN_ | apply lD_ | refine lS_ ?_ GE235.out) | exact HB.out))) : w.heap.size ≤ gb237)); have n4_ := Aside0.mk ((by rw [hg]; exact (below_size (by repeat (first | (with_reducible first | exact HB.out | apply lA_ | apply lN_ | apply lD_ | refine lS_ ?_ GE235.out) | exact HB.out))) : w.heap.size ≤ gb237)); have n5_ := Aside0.mk ((by rw [hg]; exact Nat.ne_of_lt (blk_lt (g := gb235) (o := .cells #[.int .i64 0, .int .i64 0, .int .i64 0, .int .i64 0] 38 (0, 0)) (by (with_reducible repeat (first | refine bN_ ?_ _ | refine bD_ ?_ | refine bA_ ?_ _)); exact BK235.out)) : gb235 ≠ gb237)); have n6_ := Aside0.mk ((by rw [hg]; exact Nat.ne_of_gt (blk_lt (g := gb235) (o := .cells #[.int .i64 0, .int .i64 0, .int .i64 0, .int .i64 0] 38 (0, 0)) (by (with_reducible repeat (first | refine bN_ ?_ _ | refine bD_ ?_ | refine bA_ ?_ _)); exact BK235.out)) : gb237 ≠ gb235)); clear BK235; clear HB; have BK235 := n0_; have HB := n1_; have BK237 := n2_; have GW237 := n3_; have GE237 := n4_; have NB235_237 := n5_; have NB237_235 := n6_; clear n0_ n1_ n2_ n3_ n4_ n5_ n6_; clear hb hbox hg; have hnb8 := NB237_235.out; have hnc8 := NB235_237.out; have hcz9_0 : w7.cell? ⟨gb237, 0, none⟩ = some (.int .i64 0) := (blk_cell BK237.out 0).trans rfl; have hcz9_1 : w7.cell? ⟨gb237, 1, none⟩ = some (.int .i64 0) := (blk_cell BK237.out 1).trans rfl; have hcz9_2 : w7.cell? ⟨gb237, 2, none⟩ = some (.int .i64 0) := (blk_cell BK237.out 2).trans rfl; have hcz9_3 : w7.cell? ⟨gb237, 3, none⟩ = some (.int .i64 0) := (blk_cell BK237.out 3).trans rfl; have hfz9_0 := blk_frozen BK237.out 0; have hfz9_1 := blk_frozen BK237.out 1; have hfz9_2 := blk_frozen BK237.out 2; have hfz9_3 := blk_frozen BK237.out 3))
   go_loopg [18] k (fun kq v18 w' => ∃ (x18_1 : Int) (x238000_1 : Int) (x238001_1 : Int) (x238002_1 : Int) (x238003_1 : Int), v18 = .int .i64 x18_1 ∧ Aside0 (gradient_color.l0 kq l0 a1 l0 (l0.length : Int) x18_1 x238000_1 x238001_1 x238002_1 x238003_1 = some (r1, r2, r3, r4)) ∧ Aside0 (kq ≤ k) ∧ Aside0 (w'.heap[gb235]? = some (.cells #[.int .i64 0, .int .i64 0, .int .i64 0, .int .i64 0] 38 (0, 0))) ∧ Aside0 (w'.heap[gb237]? = some (.cells #[.int .i64 x238000_1, .int .i64 x238001_1, .int .i64 x238002_1, .int .i64 x238003_1] 38 (0, 0))) ∧ Aside0 (Below w.heap.size w w'))
   case atStart => exact ⟨(0), ((rd_T47 l0 (ji3)).f1.f0), ((rd_T47 l0 (ji3)).f1.f1), ((rd_T47 l0 (ji3)).f1.f2), ((rd_T47 l0 (ji3)).f1.f3), (by first | rfl | (simp; done) | (simp [*]; done)), H', ⟨Nat.le_refl _⟩, ⟨by (with_reducible repeat (first | refine bN_ ?_ _ | refine bD_ ?_ | refine bA_ ?_ _)); refine blk_far ?_ NB235_237.out _; (with_reducible repeat (first | refine bN_ ?_ _ | refine bD_ ?_ | refine bA_ ?_ _)); refine blk_far ?_ NB235_237.out _; (with_reducible repeat (first | refine bN_ ?_ _ | refine bD_ ?_ | refine bA_ ?_ _)); refine blk_far ?_ NB235_237.out _; (with_reducible repeat (first | refine bN_ ?_ _ | refine bD_ ?_ | refine bA_ ?_ _)); refine blk_far ?_ NB235_237.out _; (with_reducible repeat (first | refine bN_ ?_ _ | refine bD_ ?_ | refine bA_ ?_ _)); exact BK235.out⟩, ⟨by (with_reducible repeat (first | refine bN_ ?_ _ | refine bD_ ?_ | refine bA_ ?_ _)); refine blk_put (cs := #[.int .i64 ((rd_T47 l0 (ji3)).f1.f0), .int .i64 ((rd_T47 l0 (ji3)).f1.f1), .int .i64 ((rd_T47 l0 (ji3)).f1.f2), .int .i64 0]) ?_ 3 _ rfl; (with_reducible repeat (first | refine bN_ ?_ _ | refine bD_ ?_ | refine bA_ ?_ _)); refine blk_put (cs := #[.int .i64 ((rd_T47 l0 (ji3)).f1.f0), .int .i64 ((rd_T47 l0 (ji3)).f1.f1), .int .i64 0, .int .i64 0]) ?_ 2 _ rfl; (with_reducible repeat (first | refine bN_ ?_ _ | refine bD_ ?_ | refine bA_ ?_ _)); refine blk_put (cs := #[.int .i64 ((rd_T47 l0 (ji3)).f1.f0), .int .i64 0, .int .i64 0, .int .i64 0]) ?_ 1 _ rfl; (with_reducible repeat (first | refine bN_ ?_ _ | refine bD_ ?_ | refine bA_ ?_ _)); refine blk_put (cs := #[.int .i64 0, .int .i64 0, .int .i64 0, .int .i64 0]) ?_ 0 _ rfl; (with_reducible repeat (first | refine bN_ ?_ _ | refine bD_ ?_ | refine bA_ ?_ _)); exact BK237.out⟩, ⟨by repeat (first | (with_reducible first | exact HB.out | apply lA_ | apply lN_ | apply lD_ | refine lS_ ?_ GE235.out | refine lS_ ?_ GE237.out) | exact HB.out)⟩⟩
   case round =>
    clear H'
    try clear c2
    try clear p2
    try clear q2
    try clear hx2
    try clear c4
    try clear c4b0
    try clear c5
    try clear c5b0
    try clear p6
    try clear c8
    try clear hcz9_0
    try clear hcz9_1
    try clear hcz9_2
    try clear hcz9_3
    try clear hfz9_0
    try clear hfz9_1
    try clear hfz9_2
    try clear hfz9_3
    try clear hx236_0
    try clear hx236_1
    try clear hx236_2
    try clear hx236_3
    try clear hx236_4
    try clear p236
    try clear q236
    obtain ⟨x18_1, x238000_1, x238001_1, x238002_1, x238003_1, rfl, HA, HK1, BK235, BK237, HB⟩ := hrel
    cases gk with
    | zero => exact absurd HA.out (by simp [gradient_color.l0])
    | succ k1 =>
     have H := HA.out
     clear HA
     simp only [gradient_color.l0] at H
     by_cases c10 : x18_1 < (l0.length : Int)
     ·rw [if_pos c10] at H
      have c10b0 : decide (x18_1 < (l0.length : Int)) = true := decide_eq_true c10
      clear c10
      by_cases c11 : 0 ≤ x18_1
      ·rw [if_pos c11] at H
       have c11b0 : decide (0 ≤ x18_1) = true := decide_eq_true c11
       clear c11
       by_cases c12 : x18_1 < (l0.length : Int)
       ·rw [if_pos c12] at H
        have c12b0 : decide (x18_1 < (l0.length : Int)) = true := decide_eq_true c12
        clear c12
        by_cases c13 : a1 > ((rd_T47 l0 x18_1).f0)
        ·rw [if_pos c13] at H
         have c13b0 : decide (((rd_T47 l0 x18_1).f0) < a1) = true := decide_eq_true c13
         clear c13
         have H' := Aside0.mk H
         clear H
         have p238 : 0 ≤ (x18_1 : Int) := of_decide_eq_true (by first | (with_reducible assumption) | assumption)
         have q238 : x18_1 < (l0.length : Int) := of_decide_eq_true (by first | (with_reducible assumption) | assumption)
         obtain ⟨ad238, e238, hx238_0, hx238_1, hx238_2, hx238_3, hx238_4⟩ := at_T47 HR0.out x18_1 p238 q238
         obtain rfl : ad236 = ad238 := (by injection e238)
         replace hx238_0 := (HB.out.cell (World.block_lt_of_cell? w _ hx238_0)).trans hx238_0
         replace hx238_1 := (HB.out.cell (World.block_lt_of_cell? w _ hx238_1)).trans hx238_1
         replace hx238_2 := (HB.out.cell (World.block_lt_of_cell? w _ hx238_2)).trans hx238_2
         replace hx238_3 := (HB.out.cell (World.block_lt_of_cell? w _ hx238_3)).trans hx238_3
         replace hx238_4 := (HB.out.cell (World.block_lt_of_cell? w _ hx238_4)).trans hx238_4
         replace p238 := eq_true p238
         replace q238 := eq_true q238
         go_wp2_with (first | ((with_reducible refine gate_dst (N := 7) rfl ?_); refine box_event ?hg (N := 7) ?hd (cs := #[.int .i64 0, .int .i64 0, .int .i64 0, .int .i64 0, .int .i64 0]) (t := 47) ?hr ?_; (case hd => rfl); (case hg => rfl); (case hr => first | (go_simp; done) | (go_simp; rfl)); intro gb239 hg w14 hbox hb; have n0_ := Aside0.mk (blk_below (g := gb235) (o := .cells #[.int .i64 0, .int .i64 0, .int .i64 0, .int .i64 0] 38 (0, 0)) (by (with_reducible repeat (first | refine bN_ ?_ _ | refine bD_ ?_ | refine bA_ ?_ _)); exact BK235.out) hb); have n1_ := Aside0.mk (blk_below (g := gb237) (o := .cells #[.int .i64 x238000_1, .int .i64 x238001_1, .int .i64 x238002_1, .int .i64 x238003_1] 38 (0, 0)) (by (with_reducible repeat (first | refine bN_ ?_ _ | refine bD_ ?_ | refine bA_ ?_ _)); exact BK237.out) hb); have n2_ := Aside0.mk (below_step (by repeat (first | (with_reducible first | exact HB.out | apply lA_ | apply lN_ | apply lD_ | refine lS_ ?_ GE235.out | refine lS_ ?_ GE237.out) | exact HB.out)) hb); have n3_ := Aside0.mk (hbox); have n4_ := Aside0.mk ((by rw [hg]; exact (below_size (by repeat (first | (with_reducible first | exact HB.out | apply lA_ | apply lN_ | apply lD_ | refine lS_ ?_ GE235.out | refine lS_ ?_ GE237.out) | exact HB.out))) : w.heap.size ≤ gb239)); have n5_ := Aside0.mk ((by rw [hg]; exact (below_size (by repeat (first | (with_reducible first | exact HB.out | apply lA_ | apply lN_ | apply lD_ | refine lS_ ?_ GE235.out | refine lS_ ?_ GE237.out) | exact HB.out))) : w.heap.size ≤ gb239)); have n6_ := Aside0.mk ((by rw [hg]; exact Nat.ne_of_lt (blk_lt (g := gb235) (o := .cells #[.int .i64 0, .int .i64 0, .int .i64 0, .int .i64 0] 38 (0, 0)) (by (with_reducible repeat (first | refine bN_ ?_ _ | refine bD_ ?_ | refine bA_ ?_ _)); exact BK235.out)) : gb235 ≠ gb239)); have n7_ := Aside0.mk ((by rw [hg]; exact Nat.ne_of_gt (blk_lt (g := gb235) (o := .cells #[.int .i64 0, .int .i64 0, .int .i64 0, .int .i64 0] 38 (0, 0)) (by (with_reducible repeat (first | refine bN_ ?_ _ | refine bD_ ?_ | refine bA_ ?_ _)); exact BK235.out)) : gb239 ≠ gb235)); have n8_ := Aside0.mk ((by rw [hg]; exact Nat.ne_of_lt (blk_lt (g := gb237) (o := .cells #[.int .i64 x238000_1, .int .i64 x238001_1, .int .i64 x238002_1, .int .i64 x238003_1] 38 (0, 0)) (by (with_reducible repeat (first | refine bN_ ?_ _ | refine bD_ ?_ | refine bA_ ?_ _)); exact BK237.out)) : gb237 ≠ gb239)); have n9_ := Aside0.mk ((by rw [hg]; exact Nat.ne_of_gt (blk_lt (g := gb237) (o := .cells #[.int .i64 x238000_1, .int .i64 x238001_1, .int .i64 x238002_1, .int .i64 x238003_1] 38 (0, 0)) (by (with_reducible repeat (first | refine bN_ ?_ _ | refine bD_ ?_ | refine bA_ ?_ _)); exact BK237.out)) : gb239 ≠ gb237)); clear BK235; clear BK237; clear HB; have BK235 := n0_; have BK237 := n1_; have HB := n2_; have BK239 := n3_; have GW239 := n4_; have GE239 := n5_; have NB235_239 := n6_; have NB239_235 := n7_; have NB237_239 := n8_; have NB239_237 := n9_; clear n0_ n1_ n2_ n3_ n4_ n5_ n6_ n7_ n8_ n9_; clear hb hbox hg; have hnb15 := NB239_235.out; have hnc15 := NB235_239.out; have hnb16 := NB239_237.out; have hnc16 := NB237_239.out; have hcz17_0 : w14.cell? ⟨gb239, 0, none⟩ = some (.int .i64 0) := (blk_cell BK239.out 0).trans rfl; have hcz17_1 : w14.cell? ⟨gb239, 1, none⟩ = some (.int .i64 0) := (blk_cell BK239.out 1).trans rfl; have hcz17_2 : w14.cell? ⟨gb239, 2, none⟩ = some (.int .i64 0) := (blk_cell BK239.out 2).trans rfl; have hcz17_3 : w14.cell? ⟨gb239, 3, none⟩ = some (.int .i64 0) := (blk_cell BK239.out 3).trans rfl; have hcz17_4 : w14.cell? ⟨gb239, 4, none⟩ = some (.int .i64 0) := (blk_cell BK239.out 4).trans rfl; have hfz17_0 := blk_frozen BK239.out 0; have hfz17_1 := blk_frozen BK239.out 1; have hfz17_2 := blk_frozen BK239.out 2; have hfz17_3 := blk_frozen BK239.out 3; have hfz17_4 := blk_frozen BK239.out 4))
         go_roundg k1
         case measure => have := HK1.out; omega
         case rel => exact ⟨(wrap64 (x18_1 + 1)), (x238000_1), (x238001_1), (x238002_1), (x238003_1), (by first | rfl | (simp; done) | (simp [*]; done)), H', ⟨by have := HK1.out; omega⟩, ⟨by (with_reducible repeat (first | refine bN_ ?_ _ | refine bD_ ?_ | refine bA_ ?_ _)); refine blk_far ?_ NB235_239.out _; (with_reducible repeat (first | refine bN_ ?_ _ | refine bD_ ?_ | refine bA_ ?_ _)); refine blk_far ?_ NB235_239.out _; (with_reducible repeat (first | refine bN_ ?_ _ | refine bD_ ?_ | refine bA_ ?_ _)); refine blk_far ?_ NB235_239.out _; (with_reducible repeat (first | refine bN_ ?_ _ | refine bD_ ?_ | refine bA_ ?_ _)); refine blk_far ?_ NB235_239.out _; (with_reducible repeat (first | refine bN_ ?_ _ | refine bD_ ?_ | refine bA_ ?_ _)); refine blk_far ?_ NB235_239.out _; (with_reducible repeat (first | refine bN_ ?_ _ | refine bD_ ?_ | refine bA_ ?_ _)); exact BK235.out⟩, ⟨by (with_reducible repeat (first | refine bN_ ?_ _ | refine bD_ ?_ | refine bA_ ?_ _)); refine blk_far ?_ NB237_239.out _; (with_reducible repeat (first | refine bN_ ?_ _ | refine bD_ ?_ | refine bA_ ?_ _)); refine blk_far ?_ NB237_239.out _; (with_reducible repeat (first | refine bN_ ?_ _ | refine bD_ ?_ | refine bA_ ?_ _)); refine blk_far ?_ NB237_239.out _; (with_reducible repeat (first | refine bN_ ?_ _ | refine bD_ ?_ | refine bA_ ?_ _)); refine blk_far ?_ NB237_239.out _; (with_reducible repeat (first | refine bN_ ?_ _ | refine bD_ ?_ | refine bA_ ?_ _)); refine blk_far ?_ NB237_239.out _; (with_reducible repeat (first | refine bN_ ?_ _ | refine bD_ ?_ | refine bA_ ?_ _)); exact BK237.out⟩, ⟨by repeat (first | (with_reducible first | exact HB.out | apply lA_ | apply lN_ | apply lD_ | refine lS_ ?_ GE235.out | refine lS_ ?_ GE237.out | refine lS_ ?_ GE239.out) | exact HB.out)⟩⟩
        ·rw [if_neg c13] at H
         have c13b0 : decide (((rd_T47 l0 x18_1).f0) < a1) = false := decide_eq_false c13
         clear c13
         have HC18 := Aside0.mk H
         clear H
         have p238 : 0 ≤ (x18_1 : Int) := of_decide_eq_true (by first | (with_reducible assumption) | assumption)
         have q238 : x18_1 < (l0.length : Int) := of_decide_eq_true (by first | (with_reducible assumption) | assumption)
         obtain ⟨ad238, e238, hx238_0, hx238_1, hx238_2, hx238_3, hx238_4⟩ := at_T47 HR0.out x18_1 p238 q238
         obtain rfl : ad236 = ad238 := (by injection e238)
         replace hx238_0 := (HB.out.cell (World.block_lt_of_cell? w _ hx238_0)).trans hx238_0
         replace hx238_1 := (HB.out.cell (World.block_lt_of_cell? w _ hx238_1)).trans hx238_1
         replace hx238_2 := (HB.out.cell (World.block_lt_of_cell? w _ hx238_2)).trans hx238_2
         replace hx238_3 := (HB.out.cell (World.block_lt_of_cell? w _ hx238_3)).trans hx238_3
         replace hx238_4 := (HB.out.cell (World.block_lt_of_cell? w _ hx238_4)).trans hx238_4
         replace p238 := eq_true p238
         replace q238 := eq_true q238
         go_upto_region 7 with (first | ((with_reducible refine gate_dst (N := 7) rfl ?_); refine box_event ?hg (N := 7) ?hd (cs := #[.int .i64 0, .int .i64 0, .int .i64 0, .int .i64 0, .int .i64 0]) (t := 47) ?hr ?_; (case hd => rfl); (case hg => rfl); (case hr => first | (go_simp; done) | (go_simp; rfl)); intro gb239 hg w19 hbox hb; have n0_ := Aside0.mk (blk_below (g := gb235) (o := .cells #[.int .i64 0, .int .i64 0, .int .i64 0, .int .i64 0] 38 (0, 0)) (by (with_reducible repeat (first | refine bN_ ?_ _ | refine bD_ ?_ | refine bA_ ?_ _)); exact BK235.out) hb); have n1_ := Aside0.mk (blk_below (g := gb237) (o := .cells #[.int .i64 x238000_1, .int .i64 x238001_1, .int .i64 x238002_1, .int .i64 x238003_1] 38 (0, 0)) (by (with_reducible repeat (first | refine bN_ ?_ _ | refine bD_ ?_ | refine bA_ ?_ _)); exact BK237.out) hb); have n2_ := Aside0.mk (below_step (by repeat (first | (with_reducible first | exact HB.out | apply lA_ | apply lN_ | apply lD_ | refine lS_ ?_ GE235.out | refine lS_ ?_ GE237.out) | exact HB.out)) hb); have n3_ := Aside0.mk (hbox); have n4_ := Aside0.mk ((by rw [hg]; exact (below_size (by repeat (first | (with_reducible first | exact HB.out | apply lA_ | apply lN_ | apply lD_ | refine lS_ ?_ GE235.out | refine lS_ ?_ GE237.out) | exact HB.out))) : w.heap.size ≤ gb239)); have n5_ := Aside0.mk ((by rw [hg]; exact (below_size (by repeat (first | (with_reducible first | exact HB.out | apply lA_ | apply lN_ | apply lD_ | refine lS_ ?_ GE235.out | refine lS_ ?_ GE237.out) | exact HB.out))) : w.heap.size ≤ gb239)); have n6_ := Aside0.mk ((by rw [hg]; exact Nat.ne_of_lt (blk_lt (g := gb235) (o := .cells #[.int .i64 0, .int .i64 0, .int .i64 0, .int .i64 0] 38 (0, 0)) (by (with_reducible repeat (first | refine bN_ ?_ _ | refine bD_ ?_ | refine bA_ ?_ _)); exact BK235.out)) : gb235 ≠ gb239)); have n7_ := Aside0.mk ((by rw [hg]; exact Nat.ne_of_gt (blk_lt (g := gb235) (o := .cells #[.int .i64 0, .int .i64 0, .int .i64 0, .int .i64 0] 38 (0, 0)) (by (with_reducible repeat (first | refine bN_ ?_ _ | refine bD_ ?_ | refine bA_ ?_ _)); exact BK235.out)) : gb239 ≠ gb235)); have n8_ := Aside0.mk ((by rw [hg]; exact Nat.ne_of_lt (blk_lt (g := gb237) (o := .cells #[.int .i64 x238000_1, .int .i64 x238001_1, .int .i64 x238002_1, .int .i64 x238003_1] 38 (0, 0)) (by (with_reducible repeat (first | refine bN_ ?_ _ | refine bD_ ?_ | refine bA_ ?_ _)); exact BK237.out)) : gb237 ≠ gb239)); have n9_ := Aside0.mk ((by rw [hg]; exact Nat.ne_of_gt (blk_lt (g := gb237) (o := .cells #[.int .i64 x238000_1, .int .i64 x238001_1, .int .i64 x238002_1, .int .i64 x238003_1] 38 (0, 0)) (by (with_reducible repeat (first | refine bN_ ?_ _ | refine bD_ ?_ | refine bA_ ?_ _)); exact BK237.out)) : gb239 ≠ gb237)); clear BK235; clear BK237; clear HB; have BK235 := n0_; have BK237 := n1_; have HB := n2_; have BK239 := n3_; have GW239 := n4_; have GE239 := n5_; have NB235_239 := n6_; have NB239_235 := n7_; have NB237_239 := n8_; have NB239_237 := n9_; clear n0_ n1_ n2_ n3_ n4_ n5_ n6_ n7_ n8_ n9_; clear hb hbox hg; have hnb20 := NB239_235.out; have hnc20 := NB235_239.out; have hnb21 := NB239_237.out; have hnc21 := NB237_239.out; have hcz22_0 : w19.cell? ⟨gb239, 0, none⟩ = some (.int .i64 0) := (blk_cell BK239.out 0).trans rfl; have hcz22_1 : w19.cell? ⟨gb239, 1, none⟩ = some (.int .i64 0) := (blk_cell BK239.out 1).trans rfl; have hcz22_2 : w19.cell? ⟨gb239, 2, none⟩ = some (.int .i64 0) := (blk_cell BK239.out 2).trans rfl; have hcz22_3 : w19.cell? ⟨gb239, 3, none⟩ = some (.int .i64 0) := (blk_cell BK239.out 3).trans rfl; have hcz22_4 : w19.cell? ⟨gb239, 4, none⟩ = some (.int .i64 0) := (blk_cell BK239.out 4).trans rfl; have hfz22_0 := blk_frozen BK239.out 0; have hfz22_1 := blk_frozen BK239.out 1; have hfz22_2 := blk_frozen BK239.out 2; have hfz22_3 := blk_frozen BK239.out 3; have hfz22_4 := blk_frozen BK239.out 4; have hnb23 := NB237_235.out; have hnc23 := NB235_237.out; have hcz24_0 : w19.cell? ⟨gb237, 0, none⟩ = some (.int .i64 x238000_1) := (blk_cell BK237.out 0).trans rfl; have hcz24_1 : w19.cell? ⟨gb237, 1, none⟩ = some (.int .i64 x238001_1) := (blk_cell BK237.out 1).trans rfl; have hcz24_2 : w19.cell? ⟨gb237, 2, none⟩ = some (.int .i64 x238002_1) := (blk_cell BK237.out 2).trans rfl; have hcz24_3 : w19.cell? ⟨gb237, 3, none⟩ = some (.int .i64 x238003_1) := (blk_cell BK237.out 3).trans rfl; have hfz24_0 := blk_frozen BK237.out 0; have hfz24_1 := blk_frozen BK237.out 1; have hfz24_2 := blk_frozen BK237.out 2; have hfz24_3 := blk_frozen BK237.out 3))
         (try simp only [Act.put, tS_, tZ_, tC_])
         go_cut [36] (fun v36 wc => ∃ (kq : Nat) (x36_17 : Bool), v36 = .bool x36_17 ∧ Aside0 (gradient_color.j1 kq l0 a1 x18_1 x36_17 ((rd_T47 l0 x18_1).f1.f0) ((rd_T47 l0 x18_1).f1.f1) ((rd_T47 l0 x18_1).f1.f2) ((rd_T47 l0 x18_1).f1.f3) ((rd_T47 l0 x18_1).f0) ((rd_T47 l0 x18_1).f1.f0) ((rd_T47 l0 x18_1).f1.f1) ((rd_T47 l0 x18_1).f1.f2) ((rd_T47 l0 x18_1).f1.f3) = some (r1, r2, r3, r4)) ∧ Aside0 (kq ≤ k1) ∧ Aside0 (wc.heap[gb235]? = some (.cells #[.int .i64 0, .int .i64 0, .int .i64 0, .int .i64 0] 38 (0, 0))) ∧ Aside0 (wc.heap[gb237]? = some (.cells #[.int .i64 ((rd_T47 l0 x18_1).f1.f0), .int .i64 ((rd_T47 l0 x18_1).f1.f1), .int .i64 ((rd_T47 l0 x18_1).f1.f2), .int .i64 ((rd_T47 l0 x18_1).f1.f3)] 38 (0, 0))) ∧ Aside0 (wc.heap[gb239]? = some (.cells #[.int .i64 ((rd_T47 l0 x18_1).f0), .int .i64 ((rd_T47 l0 x18_1).f1.f0), .int .i64 ((rd_T47 l0 x18_1).f1.f1), .int .i64 ((rd_T47 l0 x18_1).f1.f2), .int .i64 ((rd_T47 l0 x18_1).f1.f3)] 47 (0, 0))) ∧ Aside0 (Below w.heap.size w wc))
         case first =>
          have H := HC18.out
          clear HC18
          by_cases c25 : x18_1 > 0
          ·rw [if_pos c25] at H
           have c25b0 : decide (0 < x18_1) = true := decide_eq_true c25
           clear c25
           (first | rw [c25b0] | (simp only [i64_w, i32_w]; rw [c25b0]) | skip)
           have H' := Aside0.mk H
           clear H
           have hnb26 := NB239_235.out
           have hnc26 := NB235_239.out
           have hnb27 := NB239_237.out
           have hnc27 := NB237_239.out
           have hcz28_0 : w19.cell? ⟨gb239, 0, none⟩ = some (.int .i64 0) := (blk_cell BK239.out 0).trans rfl
           have hcz28_1 : w19.cell? ⟨gb239, 1, none⟩ = some (.int .i64 0) := (blk_cell BK239.out 1).trans rfl
           have hcz28_2 : w19.cell? ⟨gb239, 2, none⟩ = some (.int .i64 0) := (blk_cell BK239.out 2).trans rfl
           have hcz28_3 : w19.cell? ⟨gb239, 3, none⟩ = some (.int .i64 0) := (blk_cell BK239.out 3).trans rfl
           have hcz28_4 : w19.cell? ⟨gb239, 4, none⟩ = some (.int .i64 0) := (blk_cell BK239.out 4).trans rfl
           have hfz28_0 := blk_frozen BK239.out 0
           have hfz28_1 := blk_frozen BK239.out 1
           have hfz28_2 := blk_frozen BK239.out 2
           have hfz28_3 := blk_frozen BK239.out 3
           have hfz28_4 := blk_frozen BK239.out 4
           go_wp2
           go_meet
           case rel => exact ⟨_, (decide (a1 < ((rd_T47 l0 x18_1).f0))), (by first | rfl | (simp; done) | (simp [*]; done)), H', ⟨by have := HK1.out; first | omega | exact Nat.le_refl _⟩, ⟨by (with_reducible repeat (first | refine bN_ ?_ _ | refine bD_ ?_ | refine bA_ ?_ _)); refine blk_far ?_ NB235_237.out _; (with_reducible repeat (first | refine bN_ ?_ _ | refine bD_ ?_ | refine bA_ ?_ _)); refine blk_far ?_ NB235_237.out _; (with_reducible repeat (first | refine bN_ ?_ _ | refine bD_ ?_ | refine bA_ ?_ _)); refine blk_far ?_ NB235_237.out _; (with_reducible repeat (first | refine bN_ ?_ _ | refine bD_ ?_ | refine bA_ ?_ _)); refine blk_far ?_ NB235_237.out _; (with_reducible repeat (first | refine bN_ ?_ _ | refine bD_ ?_ | refine bA_ ?_ _)); refine blk_far ?_ NB235_239.out _; (with_reducible repeat (first | refine bN_ ?_ _ | refine bD_ ?_ | refine bA_ ?_ _)); refine blk_far ?_ NB235_239.out _; (with_reducible repeat (first | refine bN_ ?_ _ | refine bD_ ?_ | refine bA_ ?_ _)); refine blk_far ?_ NB235_239.out _; (with_reducible repeat (first | refine bN_ ?_ _ | refine bD_ ?_ | refine bA_ ?_ _)); refine blk_far ?_ NB235_239.out _; (with_reducible repeat (first | refine bN_ ?_ _ | refine bD_ ?_ | refine bA_ ?_ _)); refine blk_far ?_ NB235_239.out _; (with_reducible repeat (first | refine bN_ ?_ _ | refine bD_ ?_ | refine bA_ ?_ _)); exact BK235.out⟩, ⟨by (with_reducible repeat (first | refine bN_ ?_ _ | refine bD_ ?_ | refine bA_ ?_ _)); refine blk_put (cs := #[.int .i64 ((rd_T47 l0 x18_1).f1.f0), .int .i64 ((rd_T47 l0 x18_1).f1.f1), .int .i64 ((rd_T47 l0 x18_1).f1.f2), .int .i64 x238003_1]) ?_ 3 _ rfl; (with_reducible repeat (first | refine bN_ ?_ _ | refine bD_ ?_ | refine bA_ ?_ _)); refine blk_put (cs := #[.int .i64 ((rd_T47 l0 x18_1).f1.f0), .int .i64 ((rd_T47 l0 x18_1).f1.f1), .int .i64 x238002_1, .int .i64 x238003_1]) ?_ 2 _ rfl; (with_reducible repeat (first | refine bN_ ?_ _ | refine bD_ ?_ | refine bA_ ?_ _)); refine blk_put (cs := #[.int .i64 ((rd_T47 l0 x18_1).f1.f0), .int .i64 x238001_1, .int .i64 x238002_1, .int .i64 x238003_1]) ?_ 1 _ rfl; (with_reducible repeat (first | refine bN_ ?_ _ | refine bD_ ?_ | refine bA_ ?_ _)); refine blk_put (cs := #[.int .i64 x238000_1, .int .i64 x238001_1, .int .i64 x238002_1, .int .i64 x238003_1]) ?_ 0 _ rfl; (with_reducible repeat (first | refine bN_ ?_ _ | refine bD_ ?_ | refine bA_ ?_ _)); refine blk_far ?_ NB237_239.out _; (with_reducible repeat (first | refine bN_ ?_ _ | refine bD_ ?_ | refine bA_ ?_ _)); refine blk_far ?_ NB237_239.out _; (with_reducible repeat (first | refine bN_ ?_ _ | refine bD_ ?_ | refine bA_ ?_ _)); refine blk_far ?_ NB237_239.out _; (with_reducible repeat (first | refine bN_ ?_ _ | refine bD_ ?_ | refine bA_ ?_ _)); refine blk_far ?_ NB237_239.out _; (with_reducible repeat (first | refine bN_ ?_ _ | refine bD_ ?_ | refine bA_ ?_ _)); refine blk_far ?_ NB237_239.out _; (with_reducible repeat (first | refine bN_ ?_ _ | refine bD_ ?_ | refine bA_ ?_ _)); exact BK237.out⟩, ⟨by (with_reducible repeat (first | refine bN_ ?_ _ | refine bD_ ?_ | refine bA_ ?_ _)); refine blk_far ?_ NB239_237.out _; (with_reducible repeat (first | refine bN_ ?_ _ | refine bD_ ?_ | refine bA_ ?_ _)); refine blk_far ?_ NB239_237.out _; (with_reducible repeat (first | refine bN_ ?_ _ | refine bD_ ?_ | refine bA_ ?_ _)); refine blk_far ?_ NB239_237.out _; (with_reducible repeat (first | refine bN_ ?_ _ | refine bD_ ?_ | refine bA_ ?_ _)); refine blk_far ?_ NB239_237.out _; (with_reducible repeat (first | refine bN_ ?_ _ | refine bD_ ?_ | refine bA_ ?_ _)); refine blk_put (cs := #[.int .i64 ((rd_T47 l0 x18_1).f0), .int .i64 ((rd_T47 l0 x18_1).f1.f0), .int .i64 ((rd_T47 l0 x18_1).f1.f1), .int .i64 ((rd_T47 l0 x18_1).f1.f2), .int .i64 0]) ?_ 4 _ rfl; (with_reducible repeat (first | refine bN_ ?_ _ | refine bD_ ?_ | refine bA_ ?_ _)); refine blk_put (cs := #[.int .i64 ((rd_T47 l0 x18_1).f0), .int .i64 ((rd_T47 l0 x18_1).f1.f0), .int .i64 ((rd_T47 l0 x18_1).f1.f1), .int .i64 0, .int .i64 0]) ?_ 3 _ rfl; (with_reducible repeat (first | refine bN_ ?_ _ | refine bD_ ?_ | refine bA_ ?_ _)); refine blk_put (cs := #[.int .i64 ((rd_T47 l0 x18_1).f0), .int .i64 ((rd_T47 l0 x18_1).f1.f0), .int .i64 0, .int .i64 0, .int .i64 0]) ?_ 2 _ rfl; (with_reducible repeat (first | refine bN_ ?_ _ | refine bD_ ?_ | refine bA_ ?_ _)); refine blk_put (cs := #[.int .i64 ((rd_T47 l0 x18_1).f0), .int .i64 0, .int .i64 0, .int .i64 0, .int .i64 0]) ?_ 1 _ rfl; (with_reducible repeat (first | refine bN_ ?_ _ | refine bD_ ?_ | refine bA_ ?_ _)); refine blk_put (cs := #[.int .i64 0, .int .i64 0, .int .i64 0, .int .i64 0, .int .i64 0]) ?_ 0 _ rfl; (with_reducible repeat (first | refine bN_ ?_ _ | refine bD_ ?_ | refine bA_ ?_ _)); exact BK239.out⟩, ⟨by repeat (first | (with_reducible first | exact HB.out | apply lA_ | apply lN_ | apply lD_ | refine lS_ ?_ GE235.out | refine lS_ ?_ GE237.out | refine lS_ ?_ GE239.out) | exact HB.out)⟩⟩
          ·rw [if_neg c25] at H
           have c25b0 : decide (0 < x18_1) = false := decide_eq_false c25
           clear c25
           (first | rw [c25b0] | (simp only [i64_w, i32_w]; rw [c25b0]) | skip)
           have H' := Aside0.mk H
           clear H
           go_wp2
           go_meet
           case rel => exact ⟨_, (false), (by first | rfl | (simp; done) | (simp [*]; done)), H', ⟨by have := HK1.out; first | omega | exact Nat.le_refl _⟩, ⟨by (with_reducible repeat (first | refine bN_ ?_ _ | refine bD_ ?_ | refine bA_ ?_ _)); refine blk_far ?_ NB235_237.out _; (with_reducible repeat (first | refine bN_ ?_ _ | refine bD_ ?_ | refine bA_ ?_ _)); refine blk_far ?_ NB235_237.out _; (with_reducible repeat (first | refine bN_ ?_ _ | refine bD_ ?_ | refine bA_ ?_ _)); refine blk_far ?_ NB235_237.out _; (with_reducible repeat (first | refine bN_ ?_ _ | refine bD_ ?_ | refine bA_ ?_ _)); refine blk_far ?_ NB235_237.out _; (with_reducible repeat (first | refine bN_ ?_ _ | refine bD_ ?_ | refine bA_ ?_ _)); refine blk_far ?_ NB235_239.out _; (with_reducible repeat (first | refine bN_ ?_ _ | refine bD_ ?_ | refine bA_ ?_ _)); refine blk_far ?_ NB235_239.out _; (with_reducible repeat (first | refine bN_ ?_ _ | refine bD_ ?_ | refine bA_ ?_ _)); refine blk_far ?_ NB235_239.out _; (with_reducible repeat (first | refine bN_ ?_ _ | refine bD_ ?_ | refine bA_ ?_ _)); refine blk_far ?_ NB235_239.out _; (with_reducible repeat (first | refine bN_ ?_ _ | refine bD_ ?_ | refine bA_ ?_ _)); refine blk_far ?_ NB235_239.out _; (with_reducible repeat (first | refine bN_ ?_ _ | refine bD_ ?_ | refine bA_ ?_ _)); exact BK235.out⟩, ⟨by (with_reducible repeat (first | refine bN_ ?_ _ | refine bD_ ?_ | refine bA_ ?_ _)); refine blk_put (cs := #[.int .i64 ((rd_T47 l0 x18_1).f1.f0), .int .i64 ((rd_T47 l0 x18_1).f1.f1), .int .i64 ((rd_T47 l0 x18_1).f1.f2), .int .i64 x238003_1]) ?_ 3 _ rfl; (with_reducible repeat (first | refine bN_ ?_ _ | refine bD_ ?_ | refine bA_ ?_ _)); refine blk_put (cs := #[.int .i64 ((rd_T47 l0 x18_1).f1.f0), .int .i64 ((rd_T47 l0 x18_1).f1.f1), .int .i64 x238002_1, .int .i64 x238003_1]) ?_ 2 _ rfl; (with_reducible repeat (first | refine bN_ ?_ _ | refine bD_ ?_ | refine bA_ ?_ _)); refine blk_put (cs := #[.int .i64 ((rd_T47 l0 x18_1).f1.f0), .int .i64 x238001_1, .int .i64 x238002_1, .int .i64 x238003_1]) ?_ 1 _ rfl; (with_reducible repeat (first | refine bN_ ?_ _ | refine bD_ ?_ | refine bA_ ?_ _)); refine blk_put (cs := #[.int .i64 x238000_1, .int .i64 x238001_1, .int .i64 x238002_1, .int .i64 x238003_1]) ?_ 0 _ rfl; (with_reducible repeat (first | refine bN_ ?_ _ | refine bD_ ?_ | refine bA_ ?_ _)); refine blk_far ?_ NB237_239.out _; (with_reducible repeat (first | refine bN_ ?_ _ | refine bD_ ?_ | refine bA_ ?_ _)); refine blk_far ?_ NB237_239.out _; (with_reducible repeat (first | refine bN_ ?_ _ | refine bD_ ?_ | refine bA_ ?_ _)); refine blk_far ?_ NB237_239.out _; (with_reducible repeat (first | refine bN_ ?_ _ | refine bD_ ?_ | refine bA_ ?_ _)); refine blk_far ?_ NB237_239.out _; (with_reducible repeat (first | refine bN_ ?_ _ | refine bD_ ?_ | refine bA_ ?_ _)); refine blk_far ?_ NB237_239.out _; (with_reducible repeat (first | refine bN_ ?_ _ | refine bD_ ?_ | refine bA_ ?_ _)); exact BK237.out⟩, ⟨by (with_reducible repeat (first | refine bN_ ?_ _ | refine bD_ ?_ | refine bA_ ?_ _)); refine blk_far ?_ NB239_237.out _; (with_reducible repeat (first | refine bN_ ?_ _ | refine bD_ ?_ | refine bA_ ?_ _)); refine blk_far ?_ NB239_237.out _; (with_reducible repeat (first | refine bN_ ?_ _ | refine bD_ ?_ | refine bA_ ?_ _)); refine blk_far ?_ NB239_237.out _; (with_reducible repeat (first | refine bN_ ?_ _ | refine bD_ ?_ | refine bA_ ?_ _)); refine blk_far ?_ NB239_237.out _; (with_reducible repeat (first | refine bN_ ?_ _ | refine bD_ ?_ | refine bA_ ?_ _)); refine blk_put (cs := #[.int .i64 ((rd_T47 l0 x18_1).f0), .int .i64 ((rd_T47 l0 x18_1).f1.f0), .int .i64 ((rd_T47 l0 x18_1).f1.f1), .int .i64 ((rd_T47 l0 x18_1).f1.f2), .int .i64 0]) ?_ 4 _ rfl; (with_reducible repeat (first | refine bN_ ?_ _ | refine bD_ ?_ | refine bA_ ?_ _)); refine blk_put (cs := #[.int .i64 ((rd_T47 l0 x18_1).f0), .int .i64 ((rd_T47 l0 x18_1).f1.f0), .int .i64 ((rd_T47 l0 x18_1).f1.f1), .int .i64 0, .int .i64 0]) ?_ 3 _ rfl; (with_reducible repeat (first | refine bN_ ?_ _ | refine bD_ ?_ | refine bA_ ?_ _)); refine blk_put (cs := #[.int .i64 ((rd_T47 l0 x18_1).f0), .int .i64 ((rd_T47 l0 x18_1).f1.f0), .int .i64 0, .int .i64 0, .int .i64 0]) ?_ 2 _ rfl; (with_reducible repeat (first | refine bN_ ?_ _ | refine bD_ ?_ | refine bA_ ?_ _)); refine blk_put (cs := #[.int .i64 ((rd_T47 l0 x18_1).f0), .int .i64 0, .int .i64 0, .int .i64 0, .int .i64 0]) ?_ 1 _ rfl; (with_reducible repeat (first | refine bN_ ?_ _ | refine bD_ ?_ | refine bA_ ?_ _)); refine blk_put (cs := #[.int .i64 0, .int .i64 0, .int .i64 0, .int .i64 0, .int .i64 0]) ?_ 0 _ rfl; (with_reducible repeat (first | refine bN_ ?_ _ | refine bD_ ?_ | refine bA_ ?_ _)); exact BK239.out⟩, ⟨by repeat (first | (with_reducible first | exact HB.out | apply lA_ | apply lN_ | apply lD_ | refine lS_ ?_ GE235.out | refine lS_ ?_ GE237.out | refine lS_ ?_ GE239.out) | exact HB.out)⟩⟩
         case rest =>
          clear HC18
          try clear c1
          try clear c2
          try clear p2
          try clear q2
          try clear hx2
          try clear c4
          try clear c4b0
          try clear c5
          try clear c5b0
          try clear p6
          try clear c8
          try clear c10
          try clear c10b0
          try clear c11
          try clear c11b0
          try clear c12
          try clear c12b0
          try clear c13
          try clear c13b0
          try clear c15
          try clear c16
          try clear c20
          try clear c21
          try clear c23
          try clear p23
          try clear q23
          try clear hx23
          try clear c25
          try clear c25b0
          try clear c26
          try clear c27
          try clear hcz17_0
          try clear hcz17_1
          try clear hcz17_2
          try clear hcz17_3
          try clear hcz17_4
          try clear hcz22_0
          try clear hcz22_1
          try clear hcz22_2
          try clear hcz22_3
          try clear hcz22_4
          try clear hcz24_0
          try clear hcz24_1
          try clear hcz24_2
          try clear hcz24_3
          try clear hcz28_0
          try clear hcz28_1
          try clear hcz28_2
          try clear hcz28_3
          try clear hcz28_4
          try clear hcz9_0
          try clear hcz9_1
          try clear hcz9_2
          try clear hcz9_3
          try clear hfz17_0
          try clear hfz17_1
          try clear hfz17_2
          try clear hfz17_3
          try clear hfz17_4
          try clear hfz22_0
          try clear hfz22_1
          try clear hfz22_2
          try clear hfz22_3
          try clear hfz22_4
          try clear hfz24_0
          try clear hfz24_1
          try clear hfz24_2
          try clear hfz24_3
          try clear hfz28_0
          try clear hfz28_1
          try clear hfz28_2
          try clear hfz28_3
          try clear hfz28_4
          try clear hfz9_0
          try clear hfz9_1
          try clear hfz9_2
          try clear hfz9_3
          try clear hx236_0
          try clear hx236_1
          try clear hx236_2
          try clear hx236_3
          try clear hx236_4
          try clear hx238_0
          try clear hx238_1
          try clear hx238_2
          try clear hx238_3
          try clear hx238_4
          try clear p2
          try clear p236
          try clear p238
          try clear p6
          try clear q2
          try clear q236
          try clear q238
          obtain ⟨kq, x36_17, rfl, HA, HJ17, BK235, BK237, BK239, HB⟩ := hcut
          cases kq with
          | zero => exact absurd HA.out (by simp [gradient_color.j1])
          | succ kj17 =>
           have H := HA.out
           clear HA
           simp only [gradient_color.j1] at H
           by_cases c29 : x36_17 = true
           ·subst c29
            have H1 : (if 0 ≤ (wrap64 (x18_1 - 1)) then (if (wrap64 (x18_1 - 1)) < (l0.length : Int) then ((num_Div.f kj17 (wrap64 (65535 * (wrap64 (a1 - ((rd_T47 l0 (wrap64 (x18_1 - 1))).f0))))) (wrap64 (((rd_T47 l0 x18_1).f0) - ((rd_T47 l0 (wrap64 (x18_1 - 1))).f0)))).bind fun t242 => ((pixel_Mix.f kj17 ((rd_T47 l0 (wrap64 (x18_1 - 1))).f1.f0) ((rd_T47 l0 (wrap64 (x18_1 - 1))).f1.f1) ((rd_T47 l0 (wrap64 (x18_1 - 1))).f1.f2) ((rd_T47 l0 (wrap64 (x18_1 - 1))).f1.f3) ((rd_T47 l0 x18_1).f1.f0) ((rd_T47 l0 x18_1).f1.f1) ((rd_T47 l0 x18_1).f1.f2) ((rd_T47 l0 x18_1).f1.f3) t242).bind fun bt243 => (if bt243.2.2.2 = 0 then (some (0, 0, 0, 0)) else (some (bt243.1, bt243.2.1, bt243.2.2.1, bt243.2.2.2))))) else (none)) else (none)) = some (r1, r2, r3, r4) := by rw [if_pos rfl] at H; exact H
            clear H
            have H := H1
            clear H1
            obtain ⟨ji30, hji30⟩ : ∃ j_ : Int, (wrap64 (x18_1 - 1)) = j_ := ⟨_, rfl⟩
            replace H : (if 0 ≤ (ji30) then (if (ji30) < (l0.length : Int) then ((num_Div.f kj17 (wrap64 (65535 * (wrap64 (a1 - ((rd_T47 l0 (ji30)).f0))))) (wrap64 (((rd_T47 l0 x18_1).f0) - ((rd_T47 l0 (ji30)).f0)))).bind fun t242 => ((pixel_Mix.f kj17 ((rd_T47 l0 (ji30)).f1.f0) ((rd_T47 l0 (ji30)).f1.f1) ((rd_T47 l0 (ji30)).f1.f2) ((rd_T47 l0 (ji30)).f1.f3) ((rd_T47 l0 x18_1).f1.f0) ((rd_T47 l0 x18_1).f1.f1) ((rd_T47 l0 x18_1).f1.f2) ((rd_T47 l0 x18_1).f1.f3) t242).bind fun bt243 => (if bt243.2.2.2 = 0 then (some (0, 0, 0, 0)) else (some (bt243.1, bt243.2.1, bt243.2.2.1, bt243.2.2.2))))) else (none)) else (none)) = some (r1, r2, r3, r4) := by first | (rw [hji30] at H; exact H) | (simp only [hji30] at H ⊢; exact H)
            have hji30w : (IntKind.i64.wrap (x18_1 - 1)) = ji30 := (i64_w _).trans hji30
            by_cases c31 : 0 ≤ (ji30)
            ·rw [if_pos c31] at H
             have c31b0 : decide (0 ≤ (ji30)) = true := decide_eq_true c31
             clear c31
             by_cases c32 : (ji30) < (l0.length : Int)
             ·rw [if_pos c32] at H
              have c32b0 : decide ((ji30) < (l0.length : Int)) = true := decide_eq_true c32
              clear c32
              replace H := Option.bind_eq_some_iff.mp H
              obtain ⟨t242, A330, H⟩ := H
              replace H : ((pixel_Mix.f kj17 ((rd_T47 l0 (ji30)).f1.f0) ((rd_T47 l0 (ji30)).f1.f1) ((rd_T47 l0 (ji30)).f1.f2) ((rd_T47 l0 (ji30)).f1.f3) ((rd_T47 l0 x18_1).f1.f0) ((rd_T47 l0 x18_1).f1.f1) ((rd_T47 l0 x18_1).f1.f2) ((rd_T47 l0 x18_1).f1.f3) t242).bind fun bt243 => (if bt243.2.2.2 = 0 then (some (0, 0, 0, 0)) else (some (bt243.1, bt243.2.1, bt243.2.2.1, bt243.2.2.2)))) = some (r1, r2, r3, r4) := H
              have A33 := Aside0.mk A330
              clear A330
              replace H := Option.bind_eq_some_iff.mp H
              obtain ⟨⟨t243, t244, t245, t246⟩, A340, H⟩ := H
              replace H : (if t246 = 0 then (some (0, 0, 0, 0)) else (some (t243, t244, t245, t246))) = some (r1, r2, r3, r4) := H
              have A34 := Aside0.mk A340
              clear A340
              by_cases c35 : t246 = 0
              ·rw [if_pos c35] at H
               have c35b0 : (t246 == 0) = true := beq_iff_eq.mpr c35
               have c35b1 : (t246 != 0) = false := bne_eq_false_iff_eq.mpr c35
               clear c35
               simp only [Option.some.injEq, Prod.mk.injEq] at H
               obtain ⟨rfl, rfl, rfl, rfl⟩ := H
               have p240 : 0 ≤ ((ji30) : Int) := of_decide_eq_true (by first | (with_reducible assumption) | assumption)
               have q240 : (ji30) < (l0.length : Int) := of_decide_eq_true (by first | (with_reducible assumption) | assumption)
               obtain ⟨ad240, e240, hx240_0, hx240_1, hx240_2, hx240_3, hx240_4⟩ := at_T47 HR0.out (ji30) p240 q240
               obtain rfl : ad236 = ad240 := (by injection e240)
               replace hx240_0 := (HB.out.cell (World.block_lt_of_cell? w _ hx240_0)).trans hx240_0
               replace hx240_1 := (HB.out.cell (World.block_lt_of_cell? w _ hx240_1)).trans hx240_1
               replace hx240_2 := (HB.out.cell (World.block_lt_of_cell? w _ hx240_2)).trans hx240_2
               replace hx240_3 := (HB.out.cell (World.block_lt_of_cell? w _ hx240_3)).trans hx240_3
               replace hx240_4 := (HB.out.cell (World.block_lt_of_cell? w _ hx240_4)).trans hx240_4
               replace p240 := eq_true p240
               replace q240 := eq_true q240
               try go_wp2_with (first | ((with_reducible refine gate_dst (N := 8) rfl ?_); refine box_event ?hg (N := 8) ?hd (cs := #[.int .i64 0, .int .i64 0, .int .i64 0, .int .i64 0, .int .i64 0]) (t := 47) ?hr ?_; (case hd => rfl); (case hg => rfl); (case hr => first | (go_simp; done) | (go_simp; rfl)); intro gb241 hg w36 hbox hb; have n0_ := Aside0.mk (blk_below (g := gb235) (o := .cells #[.int .i64 0, .int .i64 0, .int .i64 0, .int .i64 0] 38 (0, 0)) (by (with_reducible repeat (first | refine bN_ ?_ _ | refine bD_ ?_ | refine bA_ ?_ _)); exact BK235.out) hb); have n1_ := Aside0.mk (blk_below (g := gb237) (o := .cells #[.int .i64 ((rd_T47 l0 x18_1).f1.f0), .int .i64 ((rd_T47 l0 x18_1).f1.f1), .int .i64 ((rd_T47 l0 x18_1).f1.f2), .int .i64 ((rd_T47 l0 x18_1).f1.f3)] 38 (0, 0)) (by (with_reducible repeat (first | refine bN_ ?_ _ | refine bD_ ?_ | refine bA_ ?_ _)); exact BK237.out) hb); have n2_ := Aside0.mk (blk_below (g := gb239) (o := .cells #[.int .i64 ((rd_T47 l0 x18_1).f0), .int .i64 ((rd_T47 l0 x18_1).f1.f0), .int .i64 ((rd_T47 l0 x18_1).f1.f1), .int .i64 ((rd_T47 l0 x18_1).f1.f2), .int .i64 ((rd_T47 l0 x18_1).f1.f3)] 47 (0, 0)) (by (with_reducible repeat (first | refine bN_ ?_ _ | refine bD_ ?_ | refine bA_ ?_ _)); exact BK239.out) hb); have n3_ := Aside0.mk (below_step (by repeat (first | (with_reducible first | exact HB.out | apply lA_ | apply lN_ | apply lD_ | refine lS_ ?_ GE235.out | refine lS_ ?_ GE237.out | refine lS_ ?_ GE239.out) | exact HB.out)) hb); have n4_ := Aside0.mk (hbox); have n5_ := Aside0.mk ((by rw [hg]; exact (below_size (by repeat (first | (with_reducible first | exact HB.out | apply lA_ | apply lN_ | apply lD_ | refine lS_ ?_ GE235.out | refine lS_ ?_ GE237.out | refine lS_ ?_ GE239.out) | exact HB.out))) : w.heap.size ≤ gb241)); have n6_ := Aside0.mk ((by rw [hg]; exact (below_size (by repeat (first | (with_reducible first | exact HB.out | apply lA_ | apply lN_ | apply lD_ | refine lS_ ?_ GE235.out | refine lS_ ?_ GE237.out | refine lS_ ?_ GE239.out) | exact HB.out))) : w.heap.size ≤ gb241)); have n7_ := Aside0.mk ((by rw [hg]; exact Nat.ne_of_lt (blk_lt (g := gb235) (o := .cells #[.int .i64 0, .int .i64 0, .int .i64 0, .int .i64 0] 38 (0, 0)) (by (with_reducible repeat (first | refine bN_ ?_ _ | refine bD_ ?_ | refine bA_ ?_ _)); exact BK235.out)) : gb235 ≠ gb241)); have n8_ := Aside0.mk ((by rw [hg]; exact Nat.ne_of_gt (blk_lt (g := gb235) (o := .cells #[.int .i64 0, .int .i64 0, .int .i64 0, .int .i64 0] 38 (0, 0)) (by (with_reducible repeat (first | refine bN_ ?_ _ | refine bD_ ?_ | refine bA_ ?_ _)); exact BK235.out)) : gb241 ≠ gb235)); have n9_ := Aside0.mk ((by rw [hg]; exact Nat.ne_of_lt (blk_lt (g := gb237) (o := .cells #[.int .i64 ((rd_T47 l0 x18_1).f1.f0), .int .i64 ((rd_T47 l0 x18_1).f1.f1), .int .i64 ((rd_T47 l0 x18_1).f1.f2), .int .i64 ((rd_T47 l0 x18_1).f1.f3)] 38 (0, 0)) (by (with_reducible repeat (first | refine bN_ ?_ _ | refine bD_ ?_ | refine bA_ ?_ _)); exact BK237.out)) : gb237 ≠ gb241)); have n10_ := Aside0.mk ((by rw [hg]; exact Nat.ne_of_gt (blk_lt (g := gb237) (o := .cells #[.int .i64 ((rd_T47 l0 x18_1).f1.f0), .int .i64 ((rd_T47 l0 x18_1).f1.f1), .int .i64 ((rd_T47 l0 x18_1).f1.f2), .int .i64 ((rd_T47 l0 x18_1).f1.f3)] 38 (0, 0)) (by (with_reducible repeat (first | refine bN_ ?_ _ | refine bD_ ?_ | refine bA_ ?_ _)); exact BK237.out)) : gb241 ≠ gb237)); have n11_ := Aside0.mk ((by rw [hg]; exact Nat.ne_of_lt (blk_lt (g := gb239) (o := .cells #[.int .i64 ((rd_T47 l0 x18_1).f0), .int .i64 ((rd_T47 l0 x18_1).f1.f0), .int .i64 ((rd_T47 l0 x18_1).f1.f1), .int .i64 ((rd_T47 l0 x18_1).f1.f2), .int .i64 ((rd_T47 l0 x18_1).f1.f3)] 47 (0, 0)) (by (with_reducible repeat (first | refine bN_ ?_ _ | refine bD_ ?_ | refine bA_ ?_ _)); exact BK239.out)) : gb239 ≠ gb241)); have n12_ := Aside0.mk ((by rw [hg]; exact Nat.ne_of_gt (blk_lt (g := gb239) (o := .cells #[.int .i64 ((rd_T47 l0 x18_1).f0), .int .i64 ((rd_T47 l0 x18_1).f1.f0), .int .i64 ((rd_T47 l0 x18_1).f1.f1), .int .i64 ((rd_T47 l0 x18_1).f1.f2), .int .i64 ((rd_T47 l0 x18_1).f1.f3)] 47 (0, 0)) (by (with_reducible repeat (first | refine bN_ ?_ _ | refine bD_ ?_ | refine bA_ ?_ _)); exact BK239.out)) : gb241 ≠ gb239)); clear BK235; clear BK237; clear BK239; clear HB; have BK235 := n0_; have BK237 := n1_; have BK239 := n2_; have HB := n3_; have BK241 := n4_; have GW241 := n5_; have GE241 := n6_; have NB235_241 := n7_; have NB241_235 := n8_; have NB237_241 := n9_; have NB241_237 := n10_; have NB239_241 := n11_; have NB241_239 := n12_; clear n0_ n1_ n2_ n3_ n4_ n5_ n6_ n7_ n8_ n9_ n10_ n11_ n12_; clear hb hbox hg; have hnb37 := NB241_235.out; have hnc37 := NB235_241.out; have hnb38 := NB241_237.out; have hnc38 := NB237_241.out; have hnb39 := NB241_239.out; have hnc39 := NB239_241.out; have hcz40_0 : w36.cell? ⟨gb241, 0, none⟩ = some (.int .i64 0) := (blk_cell BK241.out 0).trans rfl; have hcz40_1 : w36.cell? ⟨gb241, 1, none⟩ = some (.int .i64 0) := (blk_cell BK241.out 1).trans rfl; have hcz40_2 : w36.cell? ⟨gb241, 2, none⟩ = some (.int .i64 0) := (blk_cell BK241.out 2).trans rfl; have hcz40_3 : w36.cell? ⟨gb241, 3, none⟩ = some (.int .i64 0) := (blk_cell BK241.out 3).trans rfl; have hcz40_4 : w36.cell? ⟨gb241, 4, none⟩ = some (.int .i64 0) := (blk_cell BK241.out 4).trans rfl; have hfz40_0 := blk_frozen BK241.out 0; have hfz40_1 := blk_frozen BK241.out 1; have hfz40_2 := blk_frozen BK241.out 2; have hfz40_3 := blk_frozen BK241.out 3; have hfz40_4 := blk_frozen BK241.out 4))
               have n0_ : Aside0 ((((((w36.setCell ⟨gb241, 0, none⟩ (.int .i64 ((rd_T47 l0 (ji30)).f0))).setCell ⟨gb241, 1, none⟩ (.int .i64 ((rd_T47 l0 (ji30)).f1.f0))).setCell ⟨gb241, 2, none⟩ (.int .i64 ((rd_T47 l0 (ji30)).f1.f1))).setCell ⟨gb241, 3, none⟩ (.int .i64 ((rd_T47 l0 (ji30)).f1.f2))).setCell ⟨gb241, 4, none⟩ (.int .i64 ((rd_T47 l0 (ji30)).f1.f3))).heap[gb235]? = some (.cells #[.int .i64 0, .int .i64 0, .int .i64 0, .int .i64 0] 38 (0, 0))) := ⟨by (with_reducible repeat (first | refine bN_ ?_ _ | refine bD_ ?_ | refine bA_ ?_ _)); refine blk_far ?_ NB235_241.out _; (with_reducible repeat (first | refine bN_ ?_ _ | refine bD_ ?_ | refine bA_ ?_ _)); refine blk_far ?_ NB235_241.out _; (with_reducible repeat (first | refine bN_ ?_ _ | refine bD_ ?_ | refine bA_ ?_ _)); refine blk_far ?_ NB235_241.out _; (with_reducible repeat (first | refine bN_ ?_ _ | refine bD_ ?_ | refine bA_ ?_ _)); refine blk_far ?_ NB235_241.out _; (with_reducible repeat (first | refine bN_ ?_ _ | refine bD_ ?_ | refine bA_ ?_ _)); refine blk_far ?_ NB235_241.out _; (with_reducible repeat (first | refine bN_ ?_ _ | refine bD_ ?_ | refine bA_ ?_ _)); exact BK235.out⟩
               have n1_ : Aside0 ((((((w36.setCell ⟨gb241, 0, none⟩ (.int .i64 ((rd_T47 l0 (ji30)).f0))).setCell ⟨gb241, 1, none⟩ (.int .i64 ((rd_T47 l0 (ji30)).f1.f0))).setCell ⟨gb241, 2, none⟩ (.int .i64 ((rd_T47 l0 (ji30)).f1.f1))).setCell ⟨gb241, 3, none⟩ (.int .i64 ((rd_T47 l0 (ji30)).f1.f2))).setCell ⟨gb241, 4, none⟩ (.int .i64 ((rd_T47 l0 (ji30)).f1.f3))).heap[gb237]? = some (.cells #[.int .i64 ((rd_T47 l0 x18_1).f1.f0), .int .i64 ((rd_T47 l0 x18_1).f1.f1), .int .i64 ((rd_T47 l0 x18_1).f1.f2), .int .i64 ((rd_T47 l0 x18_1).f1.f3)] 38 (0, 0))) := ⟨by (with_reducible repeat (first | refine bN_ ?_ _ | refine bD_ ?_ | refine bA_ ?_ _)); refine blk_far ?_ NB237_241.out _; (with_reducible repeat (first | refine bN_ ?_ _ | refine bD_ ?_ | refine bA_ ?_ _)); refine blk_far ?_ NB237_241.out _; (with_reducible repeat (first | refine bN_ ?_ _ | refine bD_ ?_ | refine bA_ ?_ _)); refine blk_far ?_ NB237_241.out _; (with_reducible repeat (first | refine bN_ ?_ _ | refine bD_ ?_ | refine bA_ ?_ _)); refine blk_far ?_ NB237_241.out _; (with_reducible repeat (first | refine bN_ ?_ _ | refine bD_ ?_ | refine bA_ ?_ _)); refine blk_far ?_ NB237_241.out _; (with_reducible repeat (first | refine bN_ ?_ _ | refine bD_ ?_ | refine bA_ ?_ _)); exact BK237.out⟩
               have n2_ : Aside0 ((((((w36.setCell ⟨gb241, 0, none⟩ (.int .i64 ((rd_T47 l0 (ji30)).f0))).setCell ⟨gb241, 1, none⟩ (.int .i64 ((rd_T47 l0 (ji30)).f1.f0))).setCell ⟨gb241, 2, none⟩ (.int .i64 ((rd_T47 l0 (ji30)).f1.f1))).setCell ⟨gb241, 3, none⟩ (.int .i64 ((rd_T47 l0 (ji30)).f1.f2))).setCell ⟨gb241, 4, none⟩ (.int .i64 ((rd_T47 l0 (ji30)).f1.f3))).heap[gb239]? = some (.cells #[.int .i64 ((rd_T47 l0 x18_1).f0), .int .i64 ((rd_T47 l0 x18_1).f1.f0), .int .i64 ((rd_T47 l0 x18_1).f1.f1), .int .i64 ((rd_T47 l0 x18_1).f1.f2), .int .i64 ((rd_T47 l0 x18_1).f1.f3)] 47 (0, 0))) := ⟨by (with_reducible repeat (first | refine bN_ ?_ _ | refine bD_ ?_ | refine bA_ ?_ _)); refine blk_far ?_ NB239_241.out _; (with_reducible repeat (first | refine bN_ ?_ _ | refine bD_ ?_ | refine bA_ ?_ _)); refine blk_far ?_ NB239_241.out _; (with_reducible repeat (first | refine bN_ ?_ _ | refine bD_ ?_ | refine bA_ ?_ _)); refine blk_far ?_ NB239_241.out _; (with_reducible repeat (first | refine bN_ ?_ _ | refine bD_ ?_ | refine bA_ ?_ _)); refine blk_far ?_ NB239_241.out _; (with_reducible repeat (first | refine bN_ ?_ _ | refine bD_ ?_ | refine bA_ ?_ _)); refine blk_far ?_ NB239_241.out _; (with_reducible repeat (first | refine bN_ ?_ _ | refine bD_ ?_ | refine bA_ ?_ _)); exact BK239.out⟩
               have n3_ : Aside0 ((((((w36.setCell ⟨gb241, 0, none⟩ (.int .i64 ((rd_T47 l0 (ji30)).f0))).setCell ⟨gb241, 1, none⟩ (.int .i64 ((rd_T47 l0 (ji30)).f1.f0))).setCell ⟨gb241, 2, none⟩ (.int .i64 ((rd_T47 l0 (ji30)).f1.f1))).setCell ⟨gb241, 3, none⟩ (.int .i64 ((rd_T47 l0 (ji30)).f1.f2))).setCell ⟨gb241, 4, none⟩ (.int .i64 ((rd_T47 l0 (ji30)).f1.f3))).heap[gb241]? = some (.cells #[.int .i64 ((rd_T47 l0 (ji30)).f0), .int .i64 ((rd_T47 l0 (ji30)).f1.f0), .int .i64 ((rd_T47 l0 (ji30)).f1.f1), .int .i64 ((rd_T47 l0 (ji30)).f1.f2), .int .i64 ((rd_T47 l0 (ji30)).f1.f3)] 47 (0, 0))) := ⟨by (with_reducible repeat (first | refine bN_ ?_ _ | refine bD_ ?_ | refine bA_ ?_ _)); refine blk_put (cs := #[.int .i64 ((rd_T47 l0 (ji30)).f0), .int .i64 ((rd_T47 l0 (ji30)).f1.f0), .int .i64 ((rd_T47 l0 (ji30)).f1.f1), .int .i64 ((rd_T47 l0 (ji30)).f1.f2), .int .i64 0]) ?_ 4 _ rfl; (with_reducible repeat (first | refine bN_ ?_ _ | refine bD_ ?_ | refine bA_ ?_ _)); refine blk_put (cs := #[.int .i64 ((rd_T47 l0 (ji30)).f0), .int .i64 ((rd_T47 l0 (ji30)).f1.f0), .int .i64 ((rd_T47 l0 (ji30)).f1.f1), .int .i64 0, .int .i64 0]) ?_ 3 _ rfl; (with_reducible repeat (first | refine bN_ ?_ _ | refine bD_ ?_ | refine bA_ ?_ _)); refine blk_put (cs := #[.int .i64 ((rd_T47 l0 (ji30)).f0), .int .i64 ((rd_T47 l0 (ji30)).f1.f0), .int .i64 0, .int .i64 0, .int .i64 0]) ?_ 2 _ rfl; (with_reducible repeat (first | refine bN_ ?_ _ | refine bD_ ?_ | refine bA_ ?_ _)); refine blk_put (cs := #[.int .i64 ((rd_T47 l0 (ji30)).f0), .int .i64 0, .int .i64 0, .int .i64 0, .int .i64 0]) ?_ 1 _ rfl; (with_reducible repeat (first | refine bN_ ?_ _ | refine bD_ ?_ | refine bA_ ?_ _)); refine blk_put (cs := #[.int .i64 0, .int .i64 0, .int .i64 0, .int .i64 0, .int .i64 0]) ?_ 0 _ rfl; (with_reducible repeat (first | refine bN_ ?_ _ | refine bD_ ?_ | refine bA_ ?_ _)); exact BK241.out⟩
               have n4_ : Aside0 (Below w.heap.size w (((((w36.setCell ⟨gb241, 0, none⟩ (.int .i64 ((rd_T47 l0 (ji30)).f0))).setCell ⟨gb241, 1, none⟩ (.int .i64 ((rd_T47 l0 (ji30)).f1.f0))).setCell ⟨gb241, 2, none⟩ (.int .i64 ((rd_T47 l0 (ji30)).f1.f1))).setCell ⟨gb241, 3, none⟩ (.int .i64 ((rd_T47 l0 (ji30)).f1.f2))).setCell ⟨gb241, 4, none⟩ (.int .i64 ((rd_T47 l0 (ji30)).f1.f3)))) := ⟨by repeat (first | (with_reducible first | exact HB.out | apply lA_ | apply lN_ | apply lD_ | refine lS_ ?_ GE235.out | refine lS_ ?_ GE237.out | refine lS_ ?_ GE239.out | refine lS_ ?_ GE241.out) | exact HB.out)⟩
               (try clear BK235)
               (try clear BK237)
               (try clear BK239)
               (try clear BK241)
               (try clear HB)
               generalize (((((w36.setCell ⟨gb241, 0, none⟩ (.int .i64 ((rd_T47 l0 (ji30)).f0))).setCell ⟨gb241, 1, none⟩ (.int .i64 ((rd_T47 l0 (ji30)).f1.f0))).setCell ⟨gb241, 2, none⟩ (.int .i64 ((rd_T47 l0 (ji30)).f1.f1))).setCell ⟨gb241, 3, none⟩ (.int .i64 ((rd_T47 l0 (ji30)).f1.f2))).setCell ⟨gb241, 4, none⟩ (.int .i64 ((rd_T47 l0 (ji30)).f1.f3))) = w41 at n0_ n1_ n2_ n3_ n4_ ⊢
               have BK235 := n0_
               have BK237 := n1_
               have BK239 := n2_
               have BK241 := n3_
               have HB := n4_
               clear n0_ n1_ n2_ n3_ n4_
               have n0_ := Aside0.mk (blk_drew BK235.out)
               have n1_ := Aside0.mk (blk_drew BK237.out)
               have n2_ := Aside0.mk (blk_drew BK239.out)
               have n3_ := Aside0.mk (blk_drew BK241.out)
               have n4_ := Aside0.mk (below_drew1 HB.out)
               clear BK235
               clear BK237
               clear BK239
               clear BK241
               clear HB
               have BK235 := n0_
               have BK237 := n1_
               have BK239 := n2_
               have BK241 := n3_
               have HB := n4_
               clear n0_ n1_ n2_ n3_ n4_
               refine start_ (n := 17) (S := fun w' => w'.cell? ⟨gb241, 0, none⟩ = some (.int .i64 ((rd_T47 l0 (ji30)).f0)) ∧ w'.cell? ⟨gb241, 1, none⟩ = some (.int .i64 ((rd_T47 l0 (ji30)).f1.f0)) ∧ w'.cell? ⟨gb241, 2, none⟩ = some (.int .i64 ((rd_T47 l0 (ji30)).f1.f1)) ∧ w'.cell? ⟨gb241, 3, none⟩ = some (.int .i64 ((rd_T47 l0 (ji30)).f1.f2)) ∧ w'.cell? ⟨gb241, 4, none⟩ = some (.int .i64 ((rd_T47 l0 (ji30)).f1.f3)) ∧ w'.cell? ⟨gb239, 0, none⟩ = some (.int .i64 ((rd_T47 l0 x18_1).f0)) ∧ w'.cell? ⟨gb239, 1, none⟩ = some (.int .i64 ((rd_T47 l0 x18_1).f1.f0)) ∧ w'.cell? ⟨gb239, 2, none⟩ = some (.int .i64 ((rd_T47 l0 x18_1).f1.f1)) ∧ w'.cell? ⟨gb239, 3, none⟩ = some (.int .i64 ((rd_T47 l0 x18_1).f1.f2)) ∧ w'.cell? ⟨gb239, 4, none⟩ = some (.int .i64 ((rd_T47 l0 x18_1).f1.f3))) (ds := []) #[false, false, false, false, false, false, false, false, false, false, false, false, false, false, false, false, false] (by kernel_rfl) rfl rfl ⟨(blk_cell BK241.out 0).trans rfl, (blk_cell BK241.out 1).trans rfl, (blk_cell BK241.out 2).trans rfl, (blk_cell BK241.out 3).trans rfl, (blk_cell BK241.out 4).trans rfl, (blk_cell BK239.out 0).trans rfl, (blk_cell BK239.out 1).trans rfl, (blk_cell BK239.out 2).trans rfl, (blk_cell BK239.out 3).trans rfl, (blk_cell BK239.out 4).trans rfl⟩ (fun hHeld => ?_); refine with_tabW gradient_color.tab9 gradient_color.bits9 (fun HT_ HW_ => ?_)
               generalize w41.drew = w42 at BK235 BK237 BK239 BK241 HB hHeld ⊢
               refine pure_ (i := 0) (N := some 42) (v := ?_) (a' := ?_) #[true, false, false, false, false, false, false, false, false, false, false, false, false, false, false, false, false] rfl rfl (any_of HT_.out (by kernel_rfl)) (fun _ _ _ h => h) (Or.inl ⟨by rfl, ?_⟩) ?_ ?_
               rotate_left
               ·intro w'
                go_simp
                with_reducible rfl
               rotate_left
               ·simp only [Act.put, tS_, tZ_, tC_, i64_w, i32_w]
                rfl
               refine pure_ (i := 2) (N := some 44) (v := ?_) (a' := ?_) #[true, false, true, false, false, false, false, false, false, false, false, false, false, false, false, false, false] rfl rfl (any_of HT_.out (by kernel_rfl)) (fun _ _ _ h => h) (Or.inl ⟨by rfl, ?_⟩) ?_ ?_
               rotate_left
               ·intro w'
                go_simp
                with_reducible rfl
               rotate_left
               ·simp only [Act.put, tS_, tZ_, tC_, i64_w, i32_w]
                rfl
               refine pure_ (i := 4) (N := some 46) (v := ?_) (a' := ?_) #[true, false, true, false, true, false, false, false, false, false, false, false, false, false, false, false, false] rfl rfl (any_of HT_.out (by kernel_rfl)) (fun _ _ _ h => h) (Or.inl ⟨by rfl, ?_⟩) ?_ ?_
               rotate_left
               ·intro w'
                go_simp
                with_reducible rfl
               rotate_left
               ·simp only [Act.put, tS_, tZ_, tC_, i64_w, i32_w]
                rfl
               refine pure_ (i := 5) (N := some 47) (v := ?_) (a' := ?_) #[true, false, true, false, true, true, false, false, false, false, false, false, false, false, false, false, false] rfl rfl (any_of HT_.out (by kernel_rfl)) (fun _ _ _ h => h) (Or.inl ⟨by rfl, ?_⟩) ?_ ?_
               rotate_left
               ·intro w'
                go_simp
                with_reducible rfl
               rotate_left
               ·simp only [Act.put, tS_, tZ_, tC_, i64_w, i32_w]
                rfl
               refine pure_ (i := 9) (N := some 51) (v := ?_) (a' := ?_) #[true, false, true, false, true, true, false, false, false, true, false, false, false, false, false, false, false] rfl rfl (any_of HT_.out (by kernel_rfl)) (fun _ _ _ h => h) (Or.inl ⟨by rfl, ?_⟩) ?_ ?_
               rotate_left
               ·intro w'
                go_simp
                with_reducible rfl
               rotate_left
               ·simp only [Act.put, tS_, tZ_, tC_, i64_w, i32_w]
                rfl
               refine pure_ (i := 11) (N := some 53) (v := ?_) (a' := ?_) #[true, false, true, false, true, true, false, false, false, true, false, true, false, false, false, false, false] rfl rfl (any_of HT_.out (by kernel_rfl)) (fun _ _ _ h => h) (Or.inl ⟨by rfl, ?_⟩) ?_ ?_
               rotate_left
               ·intro w'
                go_simp
                with_reducible rfl
               rotate_left
               ·simp only [Act.put, tS_, tZ_, tC_, i64_w, i32_w]
                rfl
               refine take_ (i := 1) (N := some 43) (v := ?_) (a' := ?_) #[true, true, true, false, true, true, false, false, false, true, false, true, false, false, false, false, false] rfl rfl (take_ofW HT_.out HW_.out (by kernel_rfl)) (fun _ _ _ h => h) (Or.inl ⟨by rfl, ?_⟩) hHeld ?_ ?_
               rotate_left
               ·rintro w' ⟨s0, s1, s2, s3, s4, s5, s6, s7, s8, s9⟩
                go_simp
                with_reducible rfl
               rotate_left
               ·simp only [Act.put, tS_, tZ_, tC_, i64_w, i32_w]
                rfl
               refine take_ (i := 3) (N := some 45) (v := ?_) (a' := ?_) #[true, true, true, true, true, true, false, false, false, true, false, true, false, false, false, false, false] rfl rfl (take_ofW HT_.out HW_.out (by kernel_rfl)) (fun _ _ _ h => h) (Or.inl ⟨by rfl, ?_⟩) hHeld ?_ ?_
               rotate_left
               ·rintro w' ⟨s0, s1, s2, s3, s4, s5, s6, s7, s8, s9⟩
                go_simp
                with_reducible rfl
               rotate_left
               ·simp only [Act.put, tS_, tZ_, tC_, i64_w, i32_w]
                rfl
               refine take_ (i := 6) (N := some 48) (v := ?_) (a' := ?_) #[true, true, true, true, true, true, true, false, false, true, false, true, false, false, false, false, false] rfl rfl (take_ofW HT_.out HW_.out (by kernel_rfl)) (fun _ _ _ h => h) (Or.inl ⟨by rfl, ?_⟩) hHeld ?_ ?_
               rotate_left
               ·rintro w' ⟨s0, s1, s2, s3, s4, s5, s6, s7, s8, s9⟩
                go_simp
                with_reducible rfl
               rotate_left
               ·simp only [Act.put, tS_, tZ_, tC_, i64_w, i32_w]
                rfl
               refine pure_ (i := 7) (N := some 49) (v := ?_) (a' := ?_) #[true, true, true, true, true, true, true, true, false, true, false, true, false, false, false, false, false] rfl rfl (any_of HT_.out (by kernel_rfl)) (fun _ _ _ h => h) (Or.inl ⟨by rfl, ?_⟩) ?_ ?_
               rotate_left
               ·intro w'
                go_simp
                with_reducible rfl
               rotate_left
               ·simp only [Act.put, tS_, tZ_, tC_, i64_w, i32_w]
                rfl
               refine pure_ (i := 8) (N := some 50) (v := ?_) (a' := ?_) #[true, true, true, true, true, true, true, true, true, true, false, true, false, false, false, false, false] rfl rfl (any_of HT_.out (by kernel_rfl)) (fun _ _ _ h => h) (Or.inl ⟨by rfl, ?_⟩) ?_ ?_
               rotate_left
               ·intro w'
                go_simp
                with_reducible rfl
               rotate_left
               ·simp only [Act.put, tS_, tZ_, tC_, i64_w, i32_w]
                rfl
               refine take_ (i := 10) (N := some 52) (v := ?_) (a' := ?_) #[true, true, true, true, true, true, true, true, true, true, true, true, false, false, false, false, false] rfl rfl (take_ofW HT_.out HW_.out (by kernel_rfl)) (fun _ _ _ h => h) (Or.inl ⟨by rfl, ?_⟩) hHeld ?_ ?_
               rotate_left
               ·rintro w' ⟨s0, s1, s2, s3, s4, s5, s6, s7, s8, s9⟩
                go_simp
                with_reducible rfl
               rotate_left
               ·simp only [Act.put, tS_, tZ_, tC_, i64_w, i32_w]
                rfl
               refine take_ (i := 12) (N := some 54) (v := ?_) (a' := ?_) #[true, true, true, true, true, true, true, true, true, true, true, true, true, false, false, false, false] rfl rfl (take_ofW HT_.out HW_.out (by kernel_rfl)) (fun _ _ _ h => h) (Or.inl ⟨by rfl, ?_⟩) hHeld ?_ ?_
               rotate_left
               ·rintro w' ⟨s0, s1, s2, s3, s4, s5, s6, s7, s8, s9⟩
                go_simp
                with_reducible rfl
               rotate_left
               ·simp only [Act.put, tS_, tZ_, tC_, i64_w, i32_w]
                rfl
               refine pure_ (i := 13) (N := some 55) (v := ?_) (a' := ?_) #[true, true, true, true, true, true, true, true, true, true, true, true, true, true, false, false, false] rfl rfl (any_of HT_.out (by kernel_rfl)) (fun _ _ _ h => h) (Or.inl ⟨by rfl, ?_⟩) ?_ ?_
               rotate_left
               ·intro w'
                go_simp
                with_reducible rfl
               rotate_left
               ·simp only [Act.put, tS_, tZ_, tC_, i64_w, i32_w]
                rfl
               refine one_ (i := 14) (N := some 56) #[true, true, true, true, true, true, true, true, true, true, true, true, true, true, true, false, false] rfl rfl (one_of HT_.out (by kernel_rfl)) (by decide) (fun K hK => ?_)
               refine goes_ Try.func46 (by kernel_rfl) rfl #[.int .i64 (wrap64 (65535 * (wrap64 (a1 - ((rd_T47 l0 (ji30)).f0))))), .int .i64 (wrap64 (((rd_T47 l0 x18_1).f0) - ((rd_T47 l0 (ji30)).f0)))] (by rfl) rfl rfl (by (try simp only [List.map_toArray, List.map_cons, List.map_nil]); first | done | (simp only [hji30]; rfl) | rfl | (simp only [List.length_drop, List.length_take]; rfl)) ?_
               with_reducible refine (num_Div.calls kj17 (wrap64 (65535 * (wrap64 (a1 - ((rd_T47 l0 (ji30)).f0))))) (wrap64 (((rd_T47 l0 x18_1).f0) - ((rd_T47 l0 (ji30)).f0))) t242 _ A33.out).mono ?_
               rintro e w' ⟨rfl, ⟨nd, rfl⟩⟩
               refine ⟨_, rfl, ?_⟩
               refine hK.out _ _ ⟨(blk_cell BK241.out 0).trans rfl, (blk_cell BK241.out 1).trans rfl, (blk_cell BK241.out 2).trans rfl, (blk_cell BK241.out 3).trans rfl, (blk_cell BK241.out 4).trans rfl, (blk_cell BK239.out 0).trans rfl, (blk_cell BK239.out 1).trans rfl, (blk_cell BK239.out 2).trans rfl, (blk_cell BK239.out 3).trans rfl, (blk_cell BK239.out 4).trans rfl⟩ (fun hHeld => ?_)
               clear hK K
               refine norm_ (a' := ?_) ?_ ?_
               rotate_left
               ·show Act.put _ (some 56) _ = _
                simp only [Act.put, tS_, tZ_, tC_, i64_w, i32_w]
                rfl
               refine one_ (i := 15) (N := some 57) #[true, true, true, true, true, true, true, true, true, true, true, true, true, true, true, true, false] rfl rfl (one_of HT_.out (by kernel_rfl)) (by decide) (fun K hK => ?_)
               refine goes_ Try.func45 (by kernel_rfl) rfl #[.agg #[.int .i64 ((rd_T47 l0 (ji30)).f1.f0), .int .i64 ((rd_T47 l0 (ji30)).f1.f1), .int .i64 ((rd_T47 l0 (ji30)).f1.f2), .int .i64 ((rd_T47 l0 (ji30)).f1.f3)], .agg #[.int .i64 ((rd_T47 l0 x18_1).f1.f0), .int .i64 ((rd_T47 l0 x18_1).f1.f1), .int .i64 ((rd_T47 l0 x18_1).f1.f2), .int .i64 ((rd_T47 l0 x18_1).f1.f3)], .int .i64 t242] (by rfl) rfl rfl (by (try simp only [List.map_toArray, List.map_cons, List.map_nil]); first | done | (simp only [hji30]; rfl) | rfl | (simp only [List.length_drop, List.length_take]; rfl)) ?_
               with_reducible refine (pixel_Mix.calls kj17 ((rd_T47 l0 (ji30)).f1.f0) ((rd_T47 l0 (ji30)).f1.f1) ((rd_T47 l0 (ji30)).f1.f2) ((rd_T47 l0 (ji30)).f1.f3) ((rd_T47 l0 x18_1).f1.f0) ((rd_T47 l0 x18_1).f1.f1) ((rd_T47 l0 x18_1).f1.f2) ((rd_T47 l0 x18_1).f1.f3) t242 t243 t244 t245 t246 _ A34.out).mono ?_
               rintro e w43 ⟨rfl, hb⟩
               refine ⟨_, rfl, ?_⟩
               have n0_ := Aside0.mk (blk_below (g := gb235) (o := .cells #[.int .i64 0, .int .i64 0, .int .i64 0, .int .i64 0] 38 (0, 0)) (by (with_reducible repeat (first | refine bN_ ?_ _ | refine bD_ ?_ | refine bA_ ?_ _)); exact BK235.out) hb)
               have n1_ := Aside0.mk (blk_below (g := gb237) (o := .cells #[.int .i64 ((rd_T47 l0 x18_1).f1.f0), .int .i64 ((rd_T47 l0 x18_1).f1.f1), .int .i64 ((rd_T47 l0 x18_1).f1.f2), .int .i64 ((rd_T47 l0 x18_1).f1.f3)] 38 (0, 0)) (by (with_reducible repeat (first | refine bN_ ?_ _ | refine bD_ ?_ | refine bA_ ?_ _)); exact BK237.out) hb)
               have n2_ := Aside0.mk (blk_below (g := gb239) (o := .cells #[.int .i64 ((rd_T47 l0 x18_1).f0), .int .i64 ((rd_T47 l0 x18_1).f1.f0), .int .i64 ((rd_T47 l0 x18_1).f1.f1), .int .i64 ((rd_T47 l0 x18_1).f1.f2), .int .i64 ((rd_T47 l0 x18_1).f1.f3)] 47 (0, 0)) (by (with_reducible repeat (first | refine bN_ ?_ _ | refine bD_ ?_ | refine bA_ ?_ _)); exact BK239.out) hb)
               have n3_ := Aside0.mk (blk_below (g := gb241) (o := .cells #[.int .i64 ((rd_T47 l0 (ji30)).f0), .int .i64 ((rd_T47 l0 (ji30)).f1.f0), .int .i64 ((rd_T47 l0 (ji30)).f1.f1), .int .i64 ((rd_T47 l0 (ji30)).f1.f2), .int .i64 ((rd_T47 l0 (ji30)).f1.f3)] 47 (0, 0)) (by (with_reducible repeat (first | refine bN_ ?_ _ | refine bD_ ?_ | refine bA_ ?_ _)); exact BK241.out) hb)
               have n4_ := Aside0.mk (below_step (by repeat (first | (with_reducible first | exact HB.out | apply lA_ | apply lN_ | apply lD_ | refine lS_ ?_ GE235.out | refine lS_ ?_ GE237.out | refine lS_ ?_ GE239.out | refine lS_ ?_ GE241.out) | exact HB.out)) hb)
               clear BK235
               clear BK237
               clear BK239
               clear BK241
               clear HB
               have BK235 := n0_
               have BK237 := n1_
               have BK239 := n2_
               have BK241 := n3_
               have HB := n4_
               clear n0_ n1_ n2_ n3_ n4_
               (try clear hb)
               (try clear hb2)
               (try clear hk)
               (try clear hi)
               refine hK.out _ _ ⟨(blk_cell BK241.out 0).trans rfl, (blk_cell BK241.out 1).trans rfl, (blk_cell BK241.out 2).trans rfl, (blk_cell BK241.out 3).trans rfl, (blk_cell BK241.out 4).trans rfl, (blk_cell BK239.out 0).trans rfl, (blk_cell BK239.out 1).trans rfl, (blk_cell BK239.out 2).trans rfl, (blk_cell BK239.out 3).trans rfl, (blk_cell BK239.out 4).trans rfl⟩ (fun hHeld => ?_)
               clear hK K
               refine norm_ (a' := ?_) ?_ ?_
               rotate_left
               ·show Act.put _ (some 57) _ = _
                simp only [Act.put, tS_, tZ_, tC_, i64_w, i32_w]
                rfl
               refine one_ (i := 16) (N := none) #[true, true, true, true, true, true, true, true, true, true, true, true, true, true, true, true, true] rfl rfl (one_of HT_.out (by kernel_rfl)) (by decide) (fun K hK => ?_)
               have hs44 : w43.cell? ⟨gb237, 0, none⟩ = some (.int .i64 ((rd_T47 l0 x18_1).f1.f0)) := (blk_cell BK237.out 0).trans rfl
               have hfs44 := blk_frozen BK237.out 0
               have hns44_0 := NB235_237.out
               have hns44_2 := NB239_237.out
               have hns44_3 := NB241_237.out
               have hms44_0 := NB237_235.out
               have hms44_2 := NB237_239.out
               have hms44_3 := NB237_241.out
               have hs45 : w43.cell? ⟨gb237, 1, none⟩ = some (.int .i64 ((rd_T47 l0 x18_1).f1.f1)) := (blk_cell BK237.out 1).trans rfl
               have hfs45 := blk_frozen BK237.out 1
               have hns45_0 := NB235_237.out
               have hns45_2 := NB239_237.out
               have hns45_3 := NB241_237.out
               have hms45_0 := NB237_235.out
               have hms45_2 := NB237_239.out
               have hms45_3 := NB237_241.out
               have hs46 : w43.cell? ⟨gb237, 2, none⟩ = some (.int .i64 ((rd_T47 l0 x18_1).f1.f2)) := (blk_cell BK237.out 2).trans rfl
               have hfs46 := blk_frozen BK237.out 2
               have hns46_0 := NB235_237.out
               have hns46_2 := NB239_237.out
               have hns46_3 := NB241_237.out
               have hms46_0 := NB237_235.out
               have hms46_2 := NB237_239.out
               have hms46_3 := NB237_241.out
               have hs47 : w43.cell? ⟨gb237, 3, none⟩ = some (.int .i64 ((rd_T47 l0 x18_1).f1.f3)) := (blk_cell BK237.out 3).trans rfl
               have hfs47 := blk_frozen BK237.out 3
               have hns47_0 := NB235_237.out
               have hns47_2 := NB239_237.out
               have hns47_3 := NB241_237.out
               have hms47_0 := NB237_235.out
               have hms47_2 := NB237_239.out
               have hms47_3 := NB237_241.out
               refine skip_ (w1 := ?_) (by rfl) rfl ?_ ?_
               rotate_left
               ·go_simp
                rfl
               refine hK.out _ _ ⟨((cell_far (p := ⟨gb237, _, none⟩) NB241_237.out _).trans (((cell_far (p := ⟨gb237, _, none⟩) NB241_237.out _).trans (((cell_far (p := ⟨gb237, _, none⟩) NB241_237.out _).trans (((cell_far (p := ⟨gb237, _, none⟩) NB241_237.out _).trans (hHeld.1)))))))), ((cell_far (p := ⟨gb237, _, none⟩) NB241_237.out _).trans (((cell_far (p := ⟨gb237, _, none⟩) NB241_237.out _).trans (((cell_far (p := ⟨gb237, _, none⟩) NB241_237.out _).trans (((cell_far (p := ⟨gb237, _, none⟩) NB241_237.out _).trans (hHeld.2.1)))))))), ((cell_far (p := ⟨gb237, _, none⟩) NB241_237.out _).trans (((cell_far (p := ⟨gb237, _, none⟩) NB241_237.out _).trans (((cell_far (p := ⟨gb237, _, none⟩) NB241_237.out _).trans (((cell_far (p := ⟨gb237, _, none⟩) NB241_237.out _).trans (hHeld.2.2.1)))))))), ((cell_far (p := ⟨gb237, _, none⟩) NB241_237.out _).trans (((cell_far (p := ⟨gb237, _, none⟩) NB241_237.out _).trans (((cell_far (p := ⟨gb237, _, none⟩) NB241_237.out _).trans (((cell_far (p := ⟨gb237, _, none⟩) NB241_237.out _).trans (hHeld.2.2.2.1)))))))), ((cell_far (p := ⟨gb237, _, none⟩) NB241_237.out _).trans (((cell_far (p := ⟨gb237, _, none⟩) NB241_237.out _).trans (((cell_far (p := ⟨gb237, _, none⟩) NB241_237.out _).trans (((cell_far (p := ⟨gb237, _, none⟩) NB241_237.out _).trans (hHeld.2.2.2.2.1)))))))), ((cell_far (p := ⟨gb237, _, none⟩) NB239_237.out _).trans (((cell_far (p := ⟨gb237, _, none⟩) NB239_237.out _).trans (((cell_far (p := ⟨gb237, _, none⟩) NB239_237.out _).trans (((cell_far (p := ⟨gb237, _, none⟩) NB239_237.out _).trans (hHeld.2.2.2.2.2.1)))))))), ((cell_far (p := ⟨gb237, _, none⟩) NB239_237.out _).trans (((cell_far (p := ⟨gb237, _, none⟩) NB239_237.out _).trans (((cell_far (p := ⟨gb237, _, none⟩) NB239_237.out _).trans (((cell_far (p := ⟨gb237, _, none⟩) NB239_237.out _).trans (hHeld.2.2.2.2.2.2.1)))))))), ((cell_far (p := ⟨gb237, _, none⟩) NB239_237.out _).trans (((cell_far (p := ⟨gb237, _, none⟩) NB239_237.out _).trans (((cell_far (p := ⟨gb237, _, none⟩) NB239_237.out _).trans (((cell_far (p := ⟨gb237, _, none⟩) NB239_237.out _).trans (hHeld.2.2.2.2.2.2.2.1)))))))), ((cell_far (p := ⟨gb237, _, none⟩) NB239_237.out _).trans (((cell_far (p := ⟨gb237, _, none⟩) NB239_237.out _).trans (((cell_far (p := ⟨gb237, _, none⟩) NB239_237.out _).trans (((cell_far (p := ⟨gb237, _, none⟩) NB239_237.out _).trans (hHeld.2.2.2.2.2.2.2.2.1)))))))), ((cell_far (p := ⟨gb237, _, none⟩) NB239_237.out _).trans (((cell_far (p := ⟨gb237, _, none⟩) NB239_237.out _).trans (((cell_far (p := ⟨gb237, _, none⟩) NB239_237.out _).trans (((cell_far (p := ⟨gb237, _, none⟩) NB239_237.out _).trans (hHeld.2.2.2.2.2.2.2.2.2))))))))⟩ (fun hHeld => ?_)
               clear hK K
               refine done_ (done_of HT_.out (by kernel_rfl)) ?_
               have hnb48 := NB237_235.out
               have hnc48 := NB235_237.out
               have hnb49 := NB237_239.out
               have hnc49 := NB239_237.out
               have hcz50_0 : w43.cell? ⟨gb237, 0, none⟩ = some (.int .i64 ((rd_T47 l0 x18_1).f1.f0)) := (blk_cell BK237.out 0).trans rfl
               have hcz50_1 : w43.cell? ⟨gb237, 1, none⟩ = some (.int .i64 ((rd_T47 l0 x18_1).f1.f1)) := (blk_cell BK237.out 1).trans rfl
               have hcz50_2 : w43.cell? ⟨gb237, 2, none⟩ = some (.int .i64 ((rd_T47 l0 x18_1).f1.f2)) := (blk_cell BK237.out 2).trans rfl
               have hcz50_3 : w43.cell? ⟨gb237, 3, none⟩ = some (.int .i64 ((rd_T47 l0 x18_1).f1.f3)) := (blk_cell BK237.out 3).trans rfl
               have hfz50_0 := blk_frozen BK237.out 0
               have hfz50_1 := blk_frozen BK237.out 1
               have hfz50_2 := blk_frozen BK237.out 2
               have hfz50_3 := blk_frozen BK237.out 3
               have hnb51 := NB235_239.out
               have hnc51 := NB239_235.out
               have hcz52_0 : w43.cell? ⟨gb235, 0, none⟩ = some (.int .i64 0) := (blk_cell BK235.out 0).trans rfl
               have hcz52_1 : w43.cell? ⟨gb235, 1, none⟩ = some (.int .i64 0) := (blk_cell BK235.out 1).trans rfl
               have hcz52_2 : w43.cell? ⟨gb235, 2, none⟩ = some (.int .i64 0) := (blk_cell BK235.out 2).trans rfl
               have hcz52_3 : w43.cell? ⟨gb235, 3, none⟩ = some (.int .i64 0) := (blk_cell BK235.out 3).trans rfl
               have hfz52_0 := blk_frozen BK235.out 0
               have hfz52_1 := blk_frozen BK235.out 1
               have hfz52_2 := blk_frozen BK235.out 2
               have hfz52_3 := blk_frozen BK235.out 3
               try go_wp2
               refine bodyPost_ret (results_cell_row rfl _ _ gb235 38 #[.int .i64 0, .int .i64 0, .int .i64 0, .int .i64 0] (0, 0) _ rfl (by (with_reducible repeat (first | refine bN_ ?_ _ | refine bD_ ?_ | refine bA_ ?_ _)); refine blk_put (cs := #[.int .i64 0, .int .i64 0, .int .i64 0, .int .i64 0]) ?_ 3 _ rfl; (with_reducible repeat (first | refine bN_ ?_ _ | refine bD_ ?_ | refine bA_ ?_ _)); refine blk_put (cs := #[.int .i64 0, .int .i64 0, .int .i64 0, .int .i64 0]) ?_ 2 _ rfl; (with_reducible repeat (first | refine bN_ ?_ _ | refine bD_ ?_ | refine bA_ ?_ _)); refine blk_put (cs := #[.int .i64 0, .int .i64 0, .int .i64 0, .int .i64 0]) ?_ 1 _ rfl; (with_reducible repeat (first | refine bN_ ?_ _ | refine bD_ ?_ | refine bA_ ?_ _)); refine blk_put (cs := #[.int .i64 0, .int .i64 0, .int .i64 0, .int .i64 0]) ?_ 0 _ rfl; (with_reducible repeat (first | refine bN_ ?_ _ | refine bD_ ?_ | refine bA_ ?_ _)); refine blk_far ?_ NB235_237.out _; (with_reducible repeat (first | refine bN_ ?_ _ | refine bD_ ?_ | refine bA_ ?_ _)); refine blk_far ?_ NB235_237.out _; (with_reducible repeat (first | refine bN_ ?_ _ | refine bD_ ?_ | refine bA_ ?_ _)); refine blk_far ?_ NB235_237.out _; (with_reducible repeat (first | refine bN_ ?_ _ | refine bD_ ?_ | refine bA_ ?_ _)); refine blk_far ?_ NB235_237.out _; (with_reducible repeat (first | refine bN_ ?_ _ | refine bD_ ?_ | refine bA_ ?_ _)); exact BK235.out) Try.underlying38 rfl (by kernel_rfl)) rfl ?_
               exact ⟨by first | rfl | (simp [errW_none, errW_some] <;> rfl) | (simp only [← hji3, ← hji30]; first | rfl | (simp [errW_none, errW_some] <;> rfl)) | (simp [*, errW_none, errW_some] <;> rfl), by repeat (first | (with_reducible first | exact HB.out | apply lA_ | apply lN_ | apply lD_ | refine lS_ ?_ GE235.out | refine lS_ ?_ GE237.out | refine lS_ ?_ GE239.out | refine lS_ ?_ GE241.out) | exact HB.out)⟩
              ·rw [if_neg c35] at H
               have c35b0 : (t246 == 0) = false := beq_eq_false_iff_ne.mpr c35
               have c35b1 : (t246 != 0) = true := bne_iff_ne.mpr c35
               simp only [Option.some.injEq, Prod.mk.injEq] at H
               obtain ⟨rfl, rfl, rfl, rfl⟩ := H
               have p240 : 0 ≤ ((ji30) : Int) := of_decide_eq_true (by first | (with_reducible assumption) | assumption)
               have q240 : (ji30) < (l0.length : Int) := of_decide_eq_true (by first | (with_reducible assumption) | assumption)
               obtain ⟨ad240, e240, hx240_0, hx240_1, hx240_2, hx240_3, hx240_4⟩ := at_T47 HR0.out (ji30) p240 q240
               obtain rfl : ad236 = ad240 := (by injection e240)
               replace hx240_0 := (HB.out.cell (World.block_lt_of_cell? w _ hx240_0)).trans hx240_0
               replace hx240_1 := (HB.out.cell (World.block_lt_of_cell? w _ hx240_1)).trans hx240_1
               replace hx240_2 := (HB.out.cell (World.block_lt_of_cell? w _ hx240_2)).trans hx240_2
               replace hx240_3 := (HB.out.cell (World.block_lt_of_cell? w _ hx240_3)).trans hx240_3
               replace hx240_4 := (HB.out.cell (World.block_lt_of_cell? w _ hx240_4)).trans hx240_4
               replace p240 := eq_true p240
               replace q240 := eq_true q240
               try go_wp2_with (first | ((with_reducible refine gate_dst (N := 8) rfl ?_); refine box_event ?hg (N := 8) ?hd (cs := #[.int .i64 0, .int .i64 0, .int .i64 0, .int .i64 0, .int .i64 0]) (t := 47) ?hr ?_; (case hd => rfl); (case hg => rfl); (case hr => first | (go_simp; done) | (go_simp; rfl)); intro gb241 hg w53 hbox hb; have n0_ := Aside0.mk (blk_below (g := gb235) (o := .cells #[.int .i64 0, .int .i64 0, .int .i64 0, .int .i64 0] 38 (0, 0)) (by (with_reducible repeat (first | refine bN_ ?_ _ | refine bD_ ?_ | refine bA_ ?_ _)); exact BK235.out) hb); have n1_ := Aside0.mk (blk_below (g := gb237) (o := .cells #[.int .i64 ((rd_T47 l0 x18_1).f1.f0), .int .i64 ((rd_T47 l0 x18_1).f1.f1), .int .i64 ((rd_T47 l0 x18_1).f1.f2), .int .i64 ((rd_T47 l0 x18_1).f1.f3)] 38 (0, 0)) (by (with_reducible repeat (first | refine bN_ ?_ _ | refine bD_ ?_ | refine bA_ ?_ _)); exact BK237.out) hb); have n2_ := Aside0.mk (blk_below (g := gb239) (o := .cells #[.int .i64 ((rd_T47 l0 x18_1).f0), .int .i64 ((rd_T47 l0 x18_1).f1.f0), .int .i64 ((rd_T47 l0 x18_1).f1.f1), .int .i64 ((rd_T47 l0 x18_1).f1.f2), .int .i64 ((rd_T47 l0 x18_1).f1.f3)] 47 (0, 0)) (by (with_reducible repeat (first | refine bN_ ?_ _ | refine bD_ ?_ | refine bA_ ?_ _)); exact BK239.out) hb); have n3_ := Aside0.mk (below_step (by repeat (first | (with_reducible first | exact HB.out | apply lA_ | apply lN_ | apply lD_ | refine lS_ ?_ GE235.out | refine lS_ ?_ GE237.out | refine lS_ ?_ GE239.out) | exact HB.out)) hb); have n4_ := Aside0.mk (hbox); have n5_ := Aside0.mk ((by rw [hg]; exact (below_size (by repeat (first | (with_reducible first | exact HB.out | apply lA_ | apply lN_ | apply lD_ | refine lS_ ?_ GE235.out | refine lS_ ?_ GE237.out | refine lS_ ?_ GE239.out) | exact HB.out))) : w.heap.size ≤ gb241)); have n6_ := Aside0.mk ((by rw [hg]; exact (below_size (by repeat (first | (with_reducible first | exact HB.out | apply lA_ | apply lN_ | apply lD_ | refine lS_ ?_ GE235.out | refine lS_ ?_ GE237.out | refine lS_ ?_ GE239.out) | exact HB.out))) : w.heap.size ≤ gb241)); have n7_ := Aside0.mk ((by rw [hg]; exact Nat.ne_of_lt (blk_lt (g := gb235) (o := .cells #[.int .i64 0, .int .i64 0, .int .i64 0, .int .i64 0] 38 (0, 0)) (by (with_reducible repeat (first | refine bN_ ?_ _ | refine bD_ ?_ | refine bA_ ?_ _)); exact BK235.out)) : gb235 ≠ gb241)); have n8_ := Aside0.mk ((by rw [hg]; exact Nat.ne_of_gt (blk_lt (g := gb235) (o := .cells #[.int .i64 0, .int .i64 0, .int .i64 0, .int .i64 0] 38 (0, 0)) (by (with_reducible repeat (first | refine bN_ ?_ _ | refine bD_ ?_ | refine bA_ ?_ _)); exact BK235.out)) : gb241 ≠ gb235)); have n9_ := Aside0.mk ((by rw [hg]; exact Nat.ne_of_lt (blk_lt (g := gb237) (o := .cells #[.int .i64 ((rd_T47 l0 x18_1).f1.f0), .int .i64 ((rd_T47 l0 x18_1).f1.f1), .int .i64 ((rd_T47 l0 x18_1).f1.f2), .int .i64 ((rd_T47 l0 x18_1).f1.f3)] 38 (0, 0)) (by (with_reducible repeat (first | refine bN_ ?_ _ | refine bD_ ?_ | refine bA_ ?_ _)); exact BK237.out)) : gb237 ≠ gb241)); have n10_ := Aside0.mk ((by rw [hg]; exact Nat.ne_of_gt (blk_lt (g := gb237) (o := .cells #[.int .i64 ((rd_T47 l0 x18_1).f1.f0), .int .i64 ((rd_T47 l0 x18_1).f1.f1), .int .i64 ((rd_T47 l0 x18_1).f1.f2), .int .i64 ((rd_T47 l0 x18_1).f1.f3)] 38 (0, 0)) (by (with_reducible repeat (first | refine bN_ ?_ _ | refine bD_ ?_ | refine bA_ ?_ _)); exact BK237.out)) : gb241 ≠ gb237)); have n11_ := Aside0.mk ((by rw [hg]; exact Nat.ne_of_lt (blk_lt (g := gb239) (o := .cells #[.int .i64 ((rd_T47 l0 x18_1).f0), .int .i64 ((rd_T47 l0 x18_1).f1.f0), .int .i64 ((rd_T47 l0 x18_1).f1.f1), .int .i64 ((rd_T47 l0 x18_1).f1.f2), .int .i64 ((rd_T47 l0 x18_1).f1.f3)] 47 (0, 0)) (by (with_reducible repeat (first | refine bN_ ?_ _ | refine bD_ ?_ | refine bA_ ?_ _)); exact BK239.out)) : gb239 ≠ gb241)); have n12_ := Aside0.mk ((by rw [hg]; exact Nat.ne_of_gt (blk_lt (g := gb239) (o := .cells #[.int .i64 ((rd_T47 l0 x18_1).f0), .int .i64 ((rd_T47 l0 x18_1).f1.f0), .int .i64 ((rd_T47 l0 x18_1).f1.f1), .int .i64 ((rd_T47 l0 x18_1).f1.f2), .int .i64 ((rd_T47 l0 x18_1).f1.f3)] 47 (0, 0)) (by (with_reducible repeat (first | refine bN_ ?_ _ | refine bD_ ?_ | refine bA_ ?_ _)); exact BK239.out)) : gb241 ≠ gb239)); clear BK235; clear BK237; clear BK239; clear HB; have BK235 := n0_; have BK237 := n1_; have BK239 := n2_; have HB := n3_; have BK241 := n4_; have GW241 := n5_; have GE241 := n6_; have NB235_241 := n7_; have NB241_235 := n8_; have NB237_241 := n9_; have NB241_237 := n10_; have NB239_241 := n11_; have NB241_239 := n12_; clear n0_ n1_ n2_ n3_ n4_ n5_ n6_ n7_ n8_ n9_ n10_ n11_ n12_; clear hb hbox hg; have hnb54 := NB241_235.out; have hnc54 := NB235_241.out; have hnb55 := NB241_237.out; have hnc55 := NB237_241.out; have hnb56 := NB241_239.out; have hnc56 := NB239_241.out; have hcz57_0 : w53.cell? ⟨gb241, 0, none⟩ = some (.int .i64 0) := (blk_cell BK241.out 0).trans rfl; have hcz57_1 : w53.cell? ⟨gb241, 1, none⟩ = some (.int .i64 0) := (blk_cell BK241.out 1).trans rfl; have hcz57_2 : w53.cell? ⟨gb241, 2, none⟩ = some (.int .i64 0) := (blk_cell BK241.out 2).trans rfl; have hcz57_3 : w53.cell? ⟨gb241, 3, none⟩ = some (.int .i64 0) := (blk_cell BK241.out 3).trans rfl; have hcz57_4 : w53.cell? ⟨gb241, 4, none⟩ = some (.int .i64 0) := (blk_cell BK241.out 4).trans rfl; have hfz57_0 := blk_frozen BK241.out 0; have hfz57_1 := blk_frozen BK241.out 1; have hfz57_2 := blk_frozen BK241.out 2; have hfz57_3 := blk_frozen BK241.out 3; have hfz57_4 := blk_frozen BK241.out 4))
               have n0_ : Aside0 ((((((w53.setCell ⟨gb241, 0, none⟩ (.int .i64 ((rd_T47 l0 (ji30)).f0))).setCell ⟨gb241, 1, none⟩ (.int .i64 ((rd_T47 l0 (ji30)).f1.f0))).setCell ⟨gb241, 2, none⟩ (.int .i64 ((rd_T47 l0 (ji30)).f1.f1))).setCell ⟨gb241, 3, none⟩ (.int .i64 ((rd_T47 l0 (ji30)).f1.f2))).setCell ⟨gb241, 4, none⟩ (.int .i64 ((rd_T47 l0 (ji30)).f1.f3))).heap[gb235]? = some (.cells #[.int .i64 0, .int .i64 0, .int .i64 0, .int .i64 0] 38 (0, 0))) := ⟨by (with_reducible repeat (first | refine bN_ ?_ _ | refine bD_ ?_ | refine bA_ ?_ _)); refine blk_far ?_ NB235_241.out _; (with_reducible repeat (first | refine bN_ ?_ _ | refine bD_ ?_ | refine bA_ ?_ _)); refine blk_far ?_ NB235_241.out _; (with_reducible repeat (first | refine bN_ ?_ _ | refine bD_ ?_ | refine bA_ ?_ _)); refine blk_far ?_ NB235_241.out _; (with_reducible repeat (first | refine bN_ ?_ _ | refine bD_ ?_ | refine bA_ ?_ _)); refine blk_far ?_ NB235_241.out _; (with_reducible repeat (first | refine bN_ ?_ _ | refine bD_ ?_ | refine bA_ ?_ _)); refine blk_far ?_ NB235_241.out _; (with_reducible repeat (first | refine bN_ ?_ _ | refine bD_ ?_ | refine bA_ ?_ _)); exact BK235.out⟩
               have n1_ : Aside0 ((((((w53.setCell ⟨gb241, 0, none⟩ (.int .i64 ((rd_T47 l0 (ji30)).f0))).setCell ⟨gb241, 1, none⟩ (.int .i64 ((rd_T47 l0 (ji30)).f1.f0))).setCell ⟨gb241, 2, none⟩ (.int .i64 ((rd_T47 l0 (ji30)).f1.f1))).setCell ⟨gb241, 3, none⟩ (.int .i64 ((rd_T47 l0 (ji30)).f1.f2))).setCell ⟨gb241, 4, none⟩ (.int .i64 ((rd_T47 l0 (ji30)).f1.f3))).heap[gb237]? = some (.cells #[.int .i64 ((rd_T47 l0 x18_1).f1.f0), .int .i64 ((rd_T47 l0 x18_1).f1.f1), .int .i64 ((rd_T47 l0 x18_1).f1.f2), .int .i64 ((rd_T47 l0 x18_1).f1.f3)] 38 (0, 0))) := ⟨by (with_reducible repeat (first | refine bN_ ?_ _ | refine bD_ ?_ | refine bA_ ?_ _)); refine blk_far ?_ NB237_241.out _; (with_reducible repeat (first | refine bN_ ?_ _ | refine bD_ ?_ | refine bA_ ?_ _)); refine blk_far ?_ NB237_241.out _; (with_reducible repeat (first | refine bN_ ?_ _ | refine bD_ ?_ | refine bA_ ?_ _)); refine blk_far ?_ NB237_241.out _; (with_reducible repeat (first | refine bN_ ?_ _ | refine bD_ ?_ | refine bA_ ?_ _)); refine blk_far ?_ NB237_241.out _; (with_reducible repeat (first | refine bN_ ?_ _ | refine bD_ ?_ | refine bA_ ?_ _)); refine blk_far ?_ NB237_241.out _; (with_reducible repeat (first | refine bN_ ?_ _ | refine bD_ ?_ | refine bA_ ?_ _)); exact BK237.out⟩
               have n2_ : Aside0 ((((((w53.setCell ⟨gb241, 0, none⟩ (.int .i64 ((rd_T47 l0 (ji30)).f0))).setCell ⟨gb241, 1, none⟩ (.int .i64 ((rd_T47 l0 (ji30)).f1.f0))).setCell ⟨gb241, 2, none⟩ (.int .i64 ((rd_T47 l0 (ji30)).f1.f1))).setCell ⟨gb241, 3, none⟩ (.int .i64 ((rd_T47 l0 (ji30)).f1.f2))).setCell ⟨gb241, 4, none⟩ (.int .i64 ((rd_T47 l0 (ji30)).f1.f3))).heap[gb239]? = some (.cells #[.int .i64 ((rd_T47 l0 x18_1).f0), .int .i64 ((rd_T47 l0 x18_1).f1.f0), .int .i64 ((rd_T47 l0 x18_1).f1.f1), .int .i64 ((rd_T47 l0 x18_1).f1.f2), .int .i64 ((rd_T47 l0 x18_1).f1.f3)] 47 (0, 0))) := ⟨by (with_reducible repeat (first | refine bN_ ?_ _ | refine bD_ ?_ | refine bA_ ?_ _)); refine blk_far ?_ NB239_241.out _; (with_reducible repeat (first | refine bN_ ?_ _ | refine bD_ ?_ | refine bA_ ?_ _)); refine blk_far ?_ NB239_241.out _; (with_reducible repeat (first | refine bN_ ?_ _ | refine bD_ ?_ | refine bA_ ?_ _)); refine blk_far ?_ NB239_241.out _; (with_reducible repeat (first | refine bN_ ?_ _ | refine bD_ ?_ | refine bA_ ?_ _)); refine blk_far ?_ NB239_241.out _; (with_reducible repeat (first | refine bN_ ?_ _ | refine bD_ ?_ | refine bA_ ?_ _)); refine blk_far ?_ NB239_241.out _; (with_reducible repeat (first | refine bN_ ?_ _ | refine bD_ ?_ | refine bA_ ?_ _)); exact BK239.out⟩
               have n3_ : Aside0 ((((((w53.setCell ⟨gb241, 0, none⟩ (.int .i64 ((rd_T47 l0 (ji30)).f0))).setCell ⟨gb241, 1, none⟩ (.int .i64 ((rd_T47 l0 (ji30)).f1.f0))).setCell ⟨gb241, 2, none⟩ (.int .i64 ((rd_T47 l0 (ji30)).f1.f1))).setCell ⟨gb241, 3, none⟩ (.int .i64 ((rd_T47 l0 (ji30)).f1.f2))).setCell ⟨gb241, 4, none⟩ (.int .i64 ((rd_T47 l0 (ji30)).f1.f3))).heap[gb241]? = some (.cells #[.int .i64 ((rd_T47 l0 (ji30)).f0), .int .i64 ((rd_T47 l0 (ji30)).f1.f0), .int .i64 ((rd_T47 l0 (ji30)).f1.f1), .int .i64 ((rd_T47 l0 (ji30)).f1.f2), .int .i64 ((rd_T47 l0 (ji30)).f1.f3)] 47 (0, 0))) := ⟨by (with_reducible repeat (first | refine bN_ ?_ _ | refine bD_ ?_ | refine bA_ ?_ _)); refine blk_put (cs := #[.int .i64 ((rd_T47 l0 (ji30)).f0), .int .i64 ((rd_T47 l0 (ji30)).f1.f0), .int .i64 ((rd_T47 l0 (ji30)).f1.f1), .int .i64 ((rd_T47 l0 (ji30)).f1.f2), .int .i64 0]) ?_ 4 _ rfl; (with_reducible repeat (first | refine bN_ ?_ _ | refine bD_ ?_ | refine bA_ ?_ _)); refine blk_put (cs := #[.int .i64 ((rd_T47 l0 (ji30)).f0), .int .i64 ((rd_T47 l0 (ji30)).f1.f0), .int .i64 ((rd_T47 l0 (ji30)).f1.f1), .int .i64 0, .int .i64 0]) ?_ 3 _ rfl; (with_reducible repeat (first | refine bN_ ?_ _ | refine bD_ ?_ | refine bA_ ?_ _)); refine blk_put (cs := #[.int .i64 ((rd_T47 l0 (ji30)).f0), .int .i64 ((rd_T47 l0 (ji30)).f1.f0), .int .i64 0, .int .i64 0, .int .i64 0]) ?_ 2 _ rfl; (with_reducible repeat (first | refine bN_ ?_ _ | refine bD_ ?_ | refine bA_ ?_ _)); refine blk_put (cs := #[.int .i64 ((rd_T47 l0 (ji30)).f0), .int .i64 0, .int .i64 0, .int .i64 0, .int .i64 0]) ?_ 1 _ rfl; (with_reducible repeat (first | refine bN_ ?_ _ | refine bD_ ?_ | refine bA_ ?_ _)); refine blk_put (cs := #[.int .i64 0, .int .i64 0, .int .i64 0, .int .i64 0, .int .i64 0]) ?_ 0 _ rfl; (with_reducible repeat (first | refine bN_ ?_ _ | refine bD_ ?_ | refine bA_ ?_ _)); exact BK241.out⟩
               have n4_ : Aside0 (Below w.heap.size w (((((w53.setCell ⟨gb241, 0, none⟩ (.int .i64 ((rd_T47 l0 (ji30)).f0))).setCell ⟨gb241, 1, none⟩ (.int .i64 ((rd_T47 l0 (ji30)).f1.f0))).setCell ⟨gb241, 2, none⟩ (.int .i64 ((rd_T47 l0 (ji30)).f1.f1))).setCell ⟨gb241, 3, none⟩ (.int .i64 ((rd_T47 l0 (ji30)).f1.f2))).setCell ⟨gb241, 4, none⟩ (.int .i64 ((rd_T47 l0 (ji30)).f1.f3)))) := ⟨by repeat (first | (with_reducible first | exact HB.out | apply lA_ | apply lN_ | apply lD_ | refine lS_ ?_ GE235.out | refine lS_ ?_ GE237.out | refine lS_ ?_ GE239.out | refine lS_ ?_ GE241.out) | exact HB.out)⟩
               (try clear BK235)
               (try clear BK237)
               (try clear BK239)
               (try clear BK241)
               (try clear HB)
               generalize (((((w53.setCell ⟨gb241, 0, none⟩ (.int .i64 ((rd_T47 l0 (ji30)).f0))).setCell ⟨gb241, 1, none⟩ (.int .i64 ((rd_T47 l0 (ji30)).f1.f0))).setCell ⟨gb241, 2, none⟩ (.int .i64 ((rd_T47 l0 (ji30)).f1.f1))).setCell ⟨gb241, 3, none⟩ (.int .i64 ((rd_T47 l0 (ji30)).f1.f2))).setCell ⟨gb241, 4, none⟩ (.int .i64 ((rd_T47 l0 (ji30)).f1.f3))) = w58 at n0_ n1_ n2_ n3_ n4_ ⊢
               have BK235 := n0_
               have BK237 := n1_
               have BK239 := n2_
               have BK241 := n3_
               have HB := n4_
               clear n0_ n1_ n2_ n3_ n4_
               have n0_ := Aside0.mk (blk_drew BK235.out)
               have n1_ := Aside0.mk (blk_drew BK237.out)
               have n2_ := Aside0.mk (blk_drew BK239.out)
               have n3_ := Aside0.mk (blk_drew BK241.out)
               have n4_ := Aside0.mk (below_drew1 HB.out)
               clear BK235
               clear BK237
               clear BK239
               clear BK241
               clear HB
               have BK235 := n0_
               have BK237 := n1_
               have BK239 := n2_
               have BK241 := n3_
               have HB := n4_
               clear n0_ n1_ n2_ n3_ n4_
               refine start_ (n := 17) (S := fun w' => w'.cell? ⟨gb241, 0, none⟩ = some (.int .i64 ((rd_T47 l0 (ji30)).f0)) ∧ w'.cell? ⟨gb241, 1, none⟩ = some (.int .i64 ((rd_T47 l0 (ji30)).f1.f0)) ∧ w'.cell? ⟨gb241, 2, none⟩ = some (.int .i64 ((rd_T47 l0 (ji30)).f1.f1)) ∧ w'.cell? ⟨gb241, 3, none⟩ = some (.int .i64 ((rd_T47 l0 (ji30)).f1.f2)) ∧ w'.cell? ⟨gb241, 4, none⟩ = some (.int .i64 ((rd_T47 l0 (ji30)).f1.f3)) ∧ w'.cell? ⟨gb239, 0, none⟩ = some (.int .i64 ((rd_T47 l0 x18_1).f0)) ∧ w'.cell? ⟨gb239, 1, none⟩ = some (.int .i64 ((rd_T47 l0 x18_1).f1.f0)) ∧ w'.cell? ⟨gb239, 2, none⟩ = some (.int .i64 ((rd_T47 l0 x18_1).f1.f1)) ∧ w'.cell? ⟨gb239, 3, none⟩ = some (.int .i64 ((rd_T47 l0 x18_1).f1.f2)) ∧ w'.cell? ⟨gb239, 4, none⟩ = some (.int .i64 ((rd_T47 l0 x18_1).f1.f3))) (ds := []) #[false, false, false, false, false, false, false, false, false, false, false, false, false, false, false, false, false] (by kernel_rfl) rfl rfl ⟨(blk_cell BK241.out 0).trans rfl, (blk_cell BK241.out 1).trans rfl, (blk_cell BK241.out 2).trans rfl, (blk_cell BK241.out 3).trans rfl, (blk_cell BK241.out 4).trans rfl, (blk_cell BK239.out 0).trans rfl, (blk_cell BK239.out 1).trans rfl, (blk_cell BK239.out 2).trans rfl, (blk_cell BK239.out 3).trans rfl, (blk_cell BK239.out 4).trans rfl⟩ (fun hHeld => ?_); refine with_tabW gradient_color.tab9 gradient_color.bits9 (fun HT_ HW_ => ?_)
               generalize w58.drew = w59 at BK235 BK237 BK239 BK241 HB hHeld ⊢
               refine pure_ (i := 0) (N := some 42) (v := ?_) (a' := ?_) #[true, false, false, false, false, false, false, false, false, false, false, false, false, false, false, false, false] rfl rfl (any_of HT_.out (by kernel_rfl)) (fun _ _ _ h => h) (Or.inl ⟨by rfl, ?_⟩) ?_ ?_
               rotate_left
               ·intro w'
                go_simp
                with_reducible rfl
               rotate_left
               ·simp only [Act.put, tS_, tZ_, tC_, i64_w, i32_w]
                rfl
               refine pure_ (i := 2) (N := some 44) (v := ?_) (a' := ?_) #[true, false, true, false, false, false, false, false, false, false, false, false, false, false, false, false, false] rfl rfl (any_of HT_.out (by kernel_rfl)) (fun _ _ _ h => h) (Or.inl ⟨by rfl, ?_⟩) ?_ ?_
               rotate_left
               ·intro w'
                go_simp
                with_reducible rfl
               rotate_left
               ·simp only [Act.put, tS_, tZ_, tC_, i64_w, i32_w]
                rfl
               refine pure_ (i := 4) (N := some 46) (v := ?_) (a' := ?_) #[true, false, true, false, true, false, false, false, false, false, false, false, false, false, false, false, false] rfl rfl (any_of HT_.out (by kernel_rfl)) (fun _ _ _ h => h) (Or.inl ⟨by rfl, ?_⟩) ?_ ?_
               rotate_left
               ·intro w'
                go_simp
                with_reducible rfl
               rotate_left
               ·simp only [Act.put, tS_, tZ_, tC_, i64_w, i32_w]
                rfl
               refine pure_ (i := 5) (N := some 47) (v := ?_) (a' := ?_) #[true, false, true, false, true, true, false, false, false, false, false, false, false, false, false, false, false] rfl rfl (any_of HT_.out (by kernel_rfl)) (fun _ _ _ h => h) (Or.inl ⟨by rfl, ?_⟩) ?_ ?_
               rotate_left
               ·intro w'
                go_simp
                with_reducible rfl
               rotate_left
               ·simp only [Act.put, tS_, tZ_, tC_, i64_w, i32_w]
                rfl
               refine pure_ (i := 9) (N := some 51) (v := ?_) (a' := ?_) #[true, false, true, false, true, true, false, false, false, true, false, false, false, false, false, false, false] rfl rfl (any_of HT_.out (by kernel_rfl)) (fun _ _ _ h => h) (Or.inl ⟨by rfl, ?_⟩) ?_ ?_
               rotate_left
               ·intro w'
                go_simp
                with_reducible rfl
               rotate_left
               ·simp only [Act.put, tS_, tZ_, tC_, i64_w, i32_w]
                rfl
               refine pure_ (i := 11) (N := some 53) (v := ?_) (a' := ?_) #[true, false, true, false, true, true, false, false, false, true, false, true, false, false, false, false, false] rfl rfl (any_of HT_.out (by kernel_rfl)) (fun _ _ _ h => h) (Or.inl ⟨by rfl, ?_⟩) ?_ ?_
               rotate_left
               ·intro w'
                go_simp
                with_reducible rfl
               rotate_left
               ·simp only [Act.put, tS_, tZ_, tC_, i64_w, i32_w]
                rfl
               refine take_ (i := 1) (N := some 43) (v := ?_) (a' := ?_) #[true, true, true, false, true, true, false, false, false, true, false, true, false, false, false, false, false] rfl rfl (take_ofW HT_.out HW_.out (by kernel_rfl)) (fun _ _ _ h => h) (Or.inl ⟨by rfl, ?_⟩) hHeld ?_ ?_
               rotate_left
               ·rintro w' ⟨s0, s1, s2, s3, s4, s5, s6, s7, s8, s9⟩
                go_simp
                with_reducible rfl
               rotate_left
               ·simp only [Act.put, tS_, tZ_, tC_, i64_w, i32_w]
                rfl
               refine take_ (i := 3) (N := some 45) (v := ?_) (a' := ?_) #[true, true, true, true, true, true, false, false, false, true, false, true, false, false, false, false, false] rfl rfl (take_ofW HT_.out HW_.out (by kernel_rfl)) (fun _ _ _ h => h) (Or.inl ⟨by rfl, ?_⟩) hHeld ?_ ?_
               rotate_left
               ·rintro w' ⟨s0, s1, s2, s3, s4, s5, s6, s7, s8, s9⟩
                go_simp
                with_reducible rfl
               rotate_left
               ·simp only [Act.put, tS_, tZ_, tC_, i64_w, i32_w]
                rfl
               refine take_ (i := 6) (N := some 48) (v := ?_) (a' := ?_) #[true, true, true, true, true, true, true, false, false, true, false, true, false, false, false, false, false] rfl rfl (take_ofW HT_.out HW_.out (by kernel_rfl)) (fun _ _ _ h => h) (Or.inl ⟨by rfl, ?_⟩) hHeld ?_ ?_
               rotate_left
               ·rintro w' ⟨s0, s1, s2, s3, s4, s5, s6, s7, s8, s9⟩
                go_simp
                with_reducible rfl
               rotate_left
               ·simp only [Act.put, tS_, tZ_, tC_, i64_w, i32_w]
                rfl
               refine pure_ (i := 7) (N := some 49) (v := ?_) (a' := ?_) #[true, true, true, true, true, true, true, true, false, true, false, true, false, false, false, false, false] rfl rfl (any_of HT_.out (by kernel_rfl)) (fun _ _ _ h => h) (Or.inl ⟨by rfl, ?_⟩) ?_ ?_
               rotate_left
               ·intro w'
                go_simp
                with_reducible rfl
               rotate_left
               ·simp only [Act.put, tS_, tZ_, tC_, i64_w, i32_w]
                rfl
               refine pure_ (i := 8) (N := some 50) (v := ?_) (a' := ?_) #[true, true, true, true, true, true, true, true, true, true, false, true, false, false, false, false, false] rfl rfl (any_of HT_.out (by kernel_rfl)) (fun _ _ _ h => h) (Or.inl ⟨by rfl, ?_⟩) ?_ ?_
               rotate_left
               ·intro w'
                go_simp
                with_reducible rfl
               rotate_left
               ·simp only [Act.put, tS_, tZ_, tC_, i64_w, i32_w]
                rfl
               refine take_ (i := 10) (N := some 52) (v := ?_) (a' := ?_) #[true, true, true, true, true, true, true, true, true, true, true, true, false, false, false, false, false] rfl rfl (take_ofW HT_.out HW_.out (by kernel_rfl)) (fun _ _ _ h => h) (Or.inl ⟨by rfl, ?_⟩) hHeld ?_ ?_
               rotate_left
               ·rintro w' ⟨s0, s1, s2, s3, s4, s5, s6, s7, s8, s9⟩
                go_simp
                with_reducible rfl
               rotate_left
               ·simp only [Act.put, tS_, tZ_, tC_, i64_w, i32_w]
                rfl
               refine take_ (i := 12) (N := some 54) (v := ?_) (a' := ?_) #[true, true, true, true, true, true, true, true, true, true, true, true, true, false, false, false, false] rfl rfl (take_ofW HT_.out HW_.out (by kernel_rfl)) (fun _ _ _ h => h) (Or.inl ⟨by rfl, ?_⟩) hHeld ?_ ?_
               rotate_left
               ·rintro w' ⟨s0, s1, s2, s3, s4, s5, s6, s7, s8, s9⟩
                go_simp
                with_reducible rfl
               rotate_left
               ·simp only [Act.put, tS_, tZ_, tC_, i64_w, i32_w]
                rfl
               refine pure_ (i := 13) (N := some 55) (v := ?_) (a' := ?_) #[true, true, true, true, true, true, true, true, true, true, true, true, true, true, false, false, false] rfl rfl (any_of HT_.out (by kernel_rfl)) (fun _ _ _ h => h) (Or.inl ⟨by rfl, ?_⟩) ?_ ?_
               rotate_left
               ·intro w'
                go_simp
                with_reducible rfl
               rotate_left
               ·simp only [Act.put, tS_, tZ_, tC_, i64_w, i32_w]
                rfl
               refine one_ (i := 14) (N := some 56) #[true, true, true, true, true, true, true, true, true, true, true, true, true, true, true, false, false] rfl rfl (one_of HT_.out (by kernel_rfl)) (by decide) (fun K hK => ?_)
               refine goes_ Try.func46 (by kernel_rfl) rfl #[.int .i64 (wrap64 (65535 * (wrap64 (a1 - ((rd_T47 l0 (ji30)).f0))))), .int .i64 (wrap64 (((rd_T47 l0 x18_1).f0) - ((rd_T47 l0 (ji30)).f0)))] (by rfl) rfl rfl (by (try simp only [List.map_toArray, List.map_cons, List.map_nil]); first | done | (simp only [hji30]; rfl) | rfl | (simp only [List.length_drop, List.length_take]; rfl)) ?_
               with_reducible refine (num_Div.calls kj17 (wrap64 (65535 * (wrap64 (a1 - ((rd_T47 l0 (ji30)).f0))))) (wrap64 (((rd_T47 l0 x18_1).f0) - ((rd_T47 l0 (ji30)).f0))) t242 _ A33.out).mono ?_
               rintro e w' ⟨rfl, ⟨nd, rfl⟩⟩
               refine ⟨_, rfl, ?_⟩
               refine hK.out _ _ ⟨(blk_cell BK241.out 0).trans rfl, (blk_cell BK241.out 1).trans rfl, (blk_cell BK241.out 2).trans rfl, (blk_cell BK241.out 3).trans rfl, (blk_cell BK241.out 4).trans rfl, (blk_cell BK239.out 0).trans rfl, (blk_cell BK239.out 1).trans rfl, (blk_cell BK239.out 2).trans rfl, (blk_cell BK239.out 3).trans rfl, (blk_cell BK239.out 4).trans rfl⟩ (fun hHeld => ?_)
               clear hK K
               refine norm_ (a' := ?_) ?_ ?_
               rotate_left
               ·show Act.put _ (some 56) _ = _
                simp only [Act.put, tS_, tZ_, tC_, i64_w, i32_w]
                rfl
               refine one_ (i := 15) (N := some 57) #[true, true, true, true, true, true, true, true, true, true, true, true, true, true, true, true, false] rfl rfl (one_of HT_.out (by kernel_rfl)) (by decide) (fun K hK => ?_)
               refine goes_ Try.func45 (by kernel_rfl) rfl #[.agg #[.int .i64 ((rd_T47 l0 (ji30)).f1.f0), .int .i64 ((rd_T47 l0 (ji30)).f1.f1), .int .i64 ((rd_T47 l0 (ji30)).f1.f2), .int .i64 ((rd_T47 l0 (ji30)).f1.f3)], .agg #[.int .i64 ((rd_T47 l0 x18_1).f1.f0), .int .i64 ((rd_T47 l0 x18_1).f1.f1), .int .i64 ((rd_T47 l0 x18_1).f1.f2), .int .i64 ((rd_T47 l0 x18_1).f1.f3)], .int .i64 t242] (by rfl) rfl rfl (by (try simp only [List.map_toArray, List.map_cons, List.map_nil]); first | done | (simp only [hji30]; rfl) | rfl | (simp only [List.length_drop, List.length_take]; rfl)) ?_
               with_reducible refine (pixel_Mix.calls kj17 ((rd_T47 l0 (ji30)).f1.f0) ((rd_T47 l0 (ji30)).f1.f1) ((rd_T47 l0 (ji30)).f1.f2) ((rd_T47 l0 (ji30)).f1.f3) ((rd_T47 l0 x18_1).f1.f0) ((rd_T47 l0 x18_1).f1.f1) ((rd_T47 l0 x18_1).f1.f2) ((rd_T47 l0 x18_1).f1.f3) t242 t243 t244 t245 t246 _ A34.out).mono ?_
               rintro e w60 ⟨rfl, hb⟩
               refine ⟨_, rfl, ?_⟩
               have n0_ := Aside0.mk (blk_below (g := gb235) (o := .cells #[.int .i64 0, .int .i64 0, .int .i64 0, .int .i64 0] 38 (0, 0)) (by (with_reducible repeat (first | refine bN_ ?_ _ | refine bD_ ?_ | refine bA_ ?_ _)); exact BK235.out) hb)
               have n1_ := Aside0.mk (blk_below (g := gb237) (o := .cells #[.int .i64 ((rd_T47 l0 x18_1).f1.f0), .int .i64 ((rd_T47 l0 x18_1).f1.f1), .int .i64 ((rd_T47 l0 x18_1).f1.f2), .int .i64 ((rd_T47 l0 x18_1).f1.f3)] 38 (0, 0)) (by (with_reducible repeat (first | refine bN_ ?_ _ | refine bD_ ?_ | refine bA_ ?_ _)); exact BK237.out) hb)
               have n2_ := Aside0.mk (blk_below (g := gb239) (o := .cells #[.int .i64 ((rd_T47 l0 x18_1).f0), .int .i64 ((rd_T47 l0 x18_1).f1.f0), .int .i64 ((rd_T47 l0 x18_1).f1.f1), .int .i64 ((rd_T47 l0 x18_1).f1.f2), .int .i64 ((rd_T47 l0 x18_1).f1.f3)] 47 (0, 0)) (by (with_reducible repeat (first | refine bN_ ?_ _ | refine bD_ ?_ | refine bA_ ?_ _)); exact BK239.out) hb)
               have n3_ := Aside0.mk (blk_below (g := gb241) (o := .cells #[.int .i64 ((rd_T47 l0 (ji30)).f0), .int .i64 ((rd_T47 l0 (ji30)).f1.f0), .int .i64 ((rd_T47 l0 (ji30)).f1.f1), .int .i64 ((rd_T47 l0 (ji30)).f1.f2), .int .i64 ((rd_T47 l0 (ji30)).f1.f3)] 47 (0, 0)) (by (with_reducible repeat (first | refine bN_ ?_ _ | refine bD_ ?_ | refine bA_ ?_ _)); exact BK241.out) hb)
               have n4_ := Aside0.mk (below_step (by repeat (first | (with_reducible first | exact HB.out | apply lA_ | apply lN_ | apply lD_ | refine lS_ ?_ GE235.out | refine lS_ ?_ GE237.out | refine lS_ ?_ GE239.out | refine lS_ ?_ GE241.out) | exact HB.out)) hb)
               clear BK235
               clear BK237
               clear BK239
               clear BK241
               clear HB
               have BK235 := n0_
               have BK237 := n1_
               have BK239 := n2_
               have BK241 := n3_
               have HB := n4_
               clear n0_ n1_ n2_ n3_ n4_
               (try clear hb)
               (try clear hb2)
               (try clear hk)
               (try clear hi)
               refine hK.out _ _ ⟨(blk_cell BK241.out 0).trans rfl, (blk_cell BK241.out 1).trans rfl, (blk_cell BK241.out 2).trans rfl, (blk_cell BK241.out 3).trans rfl, (blk_cell BK241.out 4).trans rfl, (blk_cell BK239.out 0).trans rfl, (blk_cell BK239.out 1).trans rfl, (blk_cell BK239.out 2).trans rfl, (blk_cell BK239.out 3).trans rfl, (blk_cell BK239.out 4).trans rfl⟩ (fun hHeld => ?_)
               clear hK K
               refine norm_ (a' := ?_) ?_ ?_
               rotate_left
               ·show Act.put _ (some 57) _ = _
                simp only [Act.put, tS_, tZ_, tC_, i64_w, i32_w]
                rfl
               refine one_ (i := 16) (N := none) #[true, true, true, true, true, true, true, true, true, true, true, true, true, true, true, true, true] rfl rfl (one_of HT_.out (by kernel_rfl)) (by decide) (fun K hK => ?_)
               have hs61 : w60.cell? ⟨gb237, 0, none⟩ = some (.int .i64 ((rd_T47 l0 x18_1).f1.f0)) := (blk_cell BK237.out 0).trans rfl
               have hfs61 := blk_frozen BK237.out 0
               have hns61_0 := NB235_237.out
               have hns61_2 := NB239_237.out
               have hns61_3 := NB241_237.out
               have hms61_0 := NB237_235.out
               have hms61_2 := NB237_239.out
               have hms61_3 := NB237_241.out
               have hs62 : w60.cell? ⟨gb237, 1, none⟩ = some (.int .i64 ((rd_T47 l0 x18_1).f1.f1)) := (blk_cell BK237.out 1).trans rfl
               have hfs62 := blk_frozen BK237.out 1
               have hns62_0 := NB235_237.out
               have hns62_2 := NB239_237.out
               have hns62_3 := NB241_237.out
               have hms62_0 := NB237_235.out
               have hms62_2 := NB237_239.out
               have hms62_3 := NB237_241.out
               have hs63 : w60.cell? ⟨gb237, 2, none⟩ = some (.int .i64 ((rd_T47 l0 x18_1).f1.f2)) := (blk_cell BK237.out 2).trans rfl
               have hfs63 := blk_frozen BK237.out 2
               have hns63_0 := NB235_237.out
               have hns63_2 := NB239_237.out
               have hns63_3 := NB241_237.out
               have hms63_0 := NB237_235.out
               have hms63_2 := NB237_239.out
               have hms63_3 := NB237_241.out
               have hs64 : w60.cell? ⟨gb237, 3, none⟩ = some (.int .i64 ((rd_T47 l0 x18_1).f1.f3)) := (blk_cell BK237.out 3).trans rfl
               have hfs64 := blk_frozen BK237.out 3
               have hns64_0 := NB235_237.out
               have hns64_2 := NB239_237.out
               have hns64_3 := NB241_237.out
               have hms64_0 := NB237_235.out
               have hms64_2 := NB237_239.out
               have hms64_3 := NB237_241.out
               refine skip_ (w1 := ?_) (by rfl) rfl ?_ ?_
               rotate_left
               ·go_simp
                rfl
               refine hK.out _ _ ⟨((cell_far (p := ⟨gb237, _, none⟩) NB241_237.out _).trans (((cell_far (p := ⟨gb237, _, none⟩) NB241_237.out _).trans (((cell_far (p := ⟨gb237, _, none⟩) NB241_237.out _).trans (((cell_far (p := ⟨gb237, _, none⟩) NB241_237.out _).trans (hHeld.1)))))))), ((cell_far (p := ⟨gb237, _, none⟩) NB241_237.out _).trans (((cell_far (p := ⟨gb237, _, none⟩) NB241_237.out _).trans (((cell_far (p := ⟨gb237, _, none⟩) NB241_237.out _).trans (((cell_far (p := ⟨gb237, _, none⟩) NB241_237.out _).trans (hHeld.2.1)))))))), ((cell_far (p := ⟨gb237, _, none⟩) NB241_237.out _).trans (((cell_far (p := ⟨gb237, _, none⟩) NB241_237.out _).trans (((cell_far (p := ⟨gb237, _, none⟩) NB241_237.out _).trans (((cell_far (p := ⟨gb237, _, none⟩) NB241_237.out _).trans (hHeld.2.2.1)))))))), ((cell_far (p := ⟨gb237, _, none⟩) NB241_237.out _).trans (((cell_far (p := ⟨gb237, _, none⟩) NB241_237.out _).trans (((cell_far (p := ⟨gb237, _, none⟩) NB241_237.out _).trans (((cell_far (p := ⟨gb237, _, none⟩) NB241_237.out _).trans (hHeld.2.2.2.1)))))))), ((cell_far (p := ⟨gb237, _, none⟩) NB241_237.out _).trans (((cell_far (p := ⟨gb237, _, none⟩) NB241_237.out _).trans (((cell_far (p := ⟨gb237, _, none⟩) NB241_237.out _).trans (((cell_far (p := ⟨gb237, _, none⟩) NB241_237.out _).trans (hHeld.2.2.2.2.1)))))))), ((cell_far (p := ⟨gb237, _, none⟩) NB239_237.out _).trans (((cell_far (p := ⟨gb237, _, none⟩) NB239_237.out _).trans (((cell_far (p := ⟨gb237, _, none⟩) NB239_237.out _).trans (((cell_far (p := ⟨gb237, _, none⟩) NB239_237.out _).trans (hHeld.2.2.2.2.2.1)))))))), ((cell_far (p := ⟨gb237, _, none⟩) NB239_237.out _).trans (((cell_far (p := ⟨gb237, _, none⟩) NB239_237.out _).trans (((cell_far (p := ⟨gb237, _, none⟩) NB239_237.out _).trans (((cell_far (p := ⟨gb237, _, none⟩) NB239_237.out _).trans (hHeld.2.2.2.2.2.2.1)))))))), ((cell_far (p := ⟨gb237, _, none⟩) NB239_237.out _).trans (((cell_far (p := ⟨gb237, _, none⟩) NB239_237.out _).trans (((cell_far (p := ⟨gb237, _, none⟩) NB239_237.out _).trans (((cell_far (p := ⟨gb237, _, none⟩) NB239_237.out _).trans (hHeld.2.2.2.2.2.2.2.1)))))))), ((cell_far (p := ⟨gb237, _, none⟩) NB239_237.out _).trans (((cell_far (p := ⟨gb237, _, none⟩) NB239_237.out _).trans (((cell_far (p := ⟨gb237, _, none⟩) NB239_237.out _).trans (((cell_far (p := ⟨gb237, _, none⟩) NB239_237.out _).trans (hHeld.2.2.2.2.2.2.2.2.1)))))))), ((cell_far (p := ⟨gb237, _, none⟩) NB239_237.out _).trans (((cell_far (p := ⟨gb237, _, none⟩) NB239_237.out _).trans (((cell_far (p := ⟨gb237, _, none⟩) NB239_237.out _).trans (((cell_far (p := ⟨gb237, _, none⟩) NB239_237.out _).trans (hHeld.2.2.2.2.2.2.2.2.2))))))))⟩ (fun hHeld => ?_)
               clear hK K
               refine done_ (done_of HT_.out (by kernel_rfl)) ?_
               have hnb65 := NB237_235.out
               have hnc65 := NB235_237.out
               have hnb66 := NB237_239.out
               have hnc66 := NB239_237.out
               have hcz67_0 : w60.cell? ⟨gb237, 0, none⟩ = some (.int .i64 ((rd_T47 l0 x18_1).f1.f0)) := (blk_cell BK237.out 0).trans rfl
               have hcz67_1 : w60.cell? ⟨gb237, 1, none⟩ = some (.int .i64 ((rd_T47 l0 x18_1).f1.f1)) := (blk_cell BK237.out 1).trans rfl
               have hcz67_2 : w60.cell? ⟨gb237, 2, none⟩ = some (.int .i64 ((rd_T47 l0 x18_1).f1.f2)) := (blk_cell BK237.out 2).trans rfl
               have hcz67_3 : w60.cell? ⟨gb237, 3, none⟩ = some (.int .i64 ((rd_T47 l0 x18_1).f1.f3)) := (blk_cell BK237.out 3).trans rfl
               have hfz67_0 := blk_frozen BK237.out 0
               have hfz67_1 := blk_frozen BK237.out 1
               have hfz67_2 := blk_frozen BK237.out 2
               have hfz67_3 := blk_frozen BK237.out 3
               have hnb68 := NB235_239.out
               have hnc68 := NB239_235.out
               have hcz69_0 : w60.cell? ⟨gb235, 0, none⟩ = some (.int .i64 0) := (blk_cell BK235.out 0).trans rfl
               have hcz69_1 : w60.cell? ⟨gb235, 1, none⟩ = some (.int .i64 0) := (blk_cell BK235.out 1).trans rfl
               have hcz69_2 : w60.cell? ⟨gb235, 2, none⟩ = some (.int .i64 0) := (blk_cell BK235.out 2).trans rfl
               have hcz69_3 : w60.cell? ⟨gb235, 3, none⟩ = some (.int .i64 0) := (blk_cell BK235.out 3).trans rfl
               have hfz69_0 := blk_frozen BK235.out 0
               have hfz69_1 := blk_frozen BK235.out 1
               have hfz69_2 := blk_frozen BK235.out 2
               have hfz69_3 := blk_frozen BK235.out 3
               try go_wp2
               refine bodyPost_ret (results_cell_row rfl _ _ gb235 38 #[.int .i64 t243, .int .i64 t244, .int .i64 t245, .int .i64 t246] (0, 0) _ rfl (by (with_reducible repeat (first | refine bN_ ?_ _ | refine bD_ ?_ | refine bA_ ?_ _)); refine blk_put (cs := #[.int .i64 t243, .int .i64 t244, .int .i64 t245, .int .i64 0]) ?_ 3 _ rfl; (with_reducible repeat (first | refine bN_ ?_ _ | refine bD_ ?_ | refine bA_ ?_ _)); refine blk_put (cs := #[.int .i64 t243, .int .i64 t244, .int .i64 0, .int .i64 0]) ?_ 2 _ rfl; (with_reducible repeat (first | refine bN_ ?_ _ | refine bD_ ?_ | refine bA_ ?_ _)); refine blk_put (cs := #[.int .i64 t243, .int .i64 0, .int .i64 0, .int .i64 0]) ?_ 1 _ rfl; (with_reducible repeat (first | refine bN_ ?_ _ | refine bD_ ?_ | refine bA_ ?_ _)); refine blk_put (cs := #[.int .i64 0, .int .i64 0, .int .i64 0, .int .i64 0]) ?_ 0 _ rfl; (with_reducible repeat (first | refine bN_ ?_ _ | refine bD_ ?_ | refine bA_ ?_ _)); refine blk_far ?_ NB235_237.out _; (with_reducible repeat (first | refine bN_ ?_ _ | refine bD_ ?_ | refine bA_ ?_ _)); refine blk_far ?_ NB235_237.out _; (with_reducible repeat (first | refine bN_ ?_ _ | refine bD_ ?_ | refine bA_ ?_ _)); refine blk_far ?_ NB235_237.out _; (with_reducible repeat (first | refine bN_ ?_ _ | refine bD_ ?_ | refine bA_ ?_ _)); refine blk_far ?_ NB235_237.out _; (with_reducible repeat (first | refine bN_ ?_ _ | refine bD_ ?_ | refine bA_ ?_ _)); exact BK235.out) Try.underlying38 rfl (by kernel_rfl)) rfl ?_
               exact ⟨by first | rfl | (simp [errW_none, errW_some] <;> rfl) | (simp only [← hji3, ← hji30]; first | rfl | (simp [errW_none, errW_some] <;> rfl)) | (simp [*, errW_none, errW_some] <;> rfl), by repeat (first | (with_reducible first | exact HB.out | apply lA_ | apply lN_ | apply lD_ | refine lS_ ?_ GE235.out | refine lS_ ?_ GE237.out | refine lS_ ?_ GE239.out | refine lS_ ?_ GE241.out) | exact HB.out)⟩
             ·rw [if_neg c32] at H
              exact absurd H (by simp)
            ·rw [if_neg c31] at H
             exact absurd H (by simp)
           ·replace c29 := Bool.eq_false_iff.mpr c29
            subst c29
            have H1 : (if ((rd_T47 l0 x18_1).f1.f3) = 0 then (some (0, 0, 0, 0)) else (some (((rd_T47 l0 x18_1).f1.f0), ((rd_T47 l0 x18_1).f1.f1), ((rd_T47 l0 x18_1).f1.f2), ((rd_T47 l0 x18_1).f1.f3)))) = some (r1, r2, r3, r4) := by rw [if_neg (show ¬ (false = true) by decide)] at H; exact H
            clear H
            have H := H1
            clear H1
            by_cases c70 : ((rd_T47 l0 x18_1).f1.f3) = 0
            ·rw [if_pos c70] at H
             have c70b0 : (((rd_T47 l0 x18_1).f1.f3) == 0) = true := beq_iff_eq.mpr c70
             have c70b1 : (((rd_T47 l0 x18_1).f1.f3) != 0) = false := bne_eq_false_iff_eq.mpr c70
             clear c70
             simp only [Option.some.injEq, Prod.mk.injEq] at H
             obtain ⟨rfl, rfl, rfl, rfl⟩ := H
             have hnb71 := NB237_235.out
             have hnc71 := NB235_237.out
             have hnb72 := NB237_239.out
             have hnc72 := NB239_237.out
             have hcz73_0 : wc.cell? ⟨gb237, 0, none⟩ = some (.int .i64 ((rd_T47 l0 x18_1).f1.f0)) := (blk_cell BK237.out 0).trans rfl
             have hcz73_1 : wc.cell? ⟨gb237, 1, none⟩ = some (.int .i64 ((rd_T47 l0 x18_1).f1.f1)) := (blk_cell BK237.out 1).trans rfl
             have hcz73_2 : wc.cell? ⟨gb237, 2, none⟩ = some (.int .i64 ((rd_T47 l0 x18_1).f1.f2)) := (blk_cell BK237.out 2).trans rfl
             have hcz73_3 : wc.cell? ⟨gb237, 3, none⟩ = some (.int .i64 ((rd_T47 l0 x18_1).f1.f3)) := (blk_cell BK237.out 3).trans rfl
             have hfz73_0 := blk_frozen BK237.out 0
             have hfz73_1 := blk_frozen BK237.out 1
             have hfz73_2 := blk_frozen BK237.out 2
             have hfz73_3 := blk_frozen BK237.out 3
             have hnb74 := NB235_239.out
             have hnc74 := NB239_235.out
             have hcz75_0 : wc.cell? ⟨gb235, 0, none⟩ = some (.int .i64 0) := (blk_cell BK235.out 0).trans rfl
             have hcz75_1 : wc.cell? ⟨gb235, 1, none⟩ = some (.int .i64 0) := (blk_cell BK235.out 1).trans rfl
             have hcz75_2 : wc.cell? ⟨gb235, 2, none⟩ = some (.int .i64 0) := (blk_cell BK235.out 2).trans rfl
             have hcz75_3 : wc.cell? ⟨gb235, 3, none⟩ = some (.int .i64 0) := (blk_cell BK235.out 3).trans rfl
             have hfz75_0 := blk_frozen BK235.out 0
             have hfz75_1 := blk_frozen BK235.out 1
             have hfz75_2 := blk_frozen BK235.out 2
             have hfz75_3 := blk_frozen BK235.out 3
             go_wp2
             refine bodyPost_ret (results_cell_row rfl _ _ gb235 38 #[.int .i64 0, .int .i64 0, .int .i64 0, .int .i64 0] (0, 0) _ rfl (by (with_reducible repeat (first | refine bN_ ?_ _ | refine bD_ ?_ | refine bA_ ?_ _)); refine blk_put (cs := #[.int .i64 0, .int .i64 0, .int .i64 0, .int .i64 0]) ?_ 3 _ rfl; (with_reducible repeat (first | refine bN_ ?_ _ | refine bD_ ?_ | refine bA_ ?_ _)); refine blk_put (cs := #[.int .i64 0, .int .i64 0, .int .i64 0, .int .i64 0]) ?_ 2 _ rfl; (with_reducible repeat (first | refine bN_ ?_ _ | refine bD_ ?_ | refine bA_ ?_ _)); refine blk_put (cs := #[.int .i64 0, .int .i64 0, .int .i64 0, .int .i64 0]) ?_ 1 _ rfl; (with_reducible repeat (first | refine bN_ ?_ _ | refine bD_ ?_ | refine bA_ ?_ _)); refine blk_put (cs := #[.int .i64 0, .int .i64 0, .int .i64 0, .int .i64 0]) ?_ 0 _ rfl; (with_reducible repeat (first | refine bN_ ?_ _ | refine bD_ ?_ | refine bA_ ?_ _)); exact BK235.out) Try.underlying38 rfl (by kernel_rfl)) rfl ?_
             exact ⟨by first | rfl | (simp [errW_none, errW_some] <;> rfl) | (simp only [← hji3]; first | rfl | (simp [errW_none, errW_some] <;> rfl)) | (simp [*, errW_none, errW_some] <;> rfl), by repeat (first | (with_reducible first | exact HB.out | apply lA_ | apply lN_ | apply lD_ | refine lS_ ?_ GE235.out | refine lS_ ?_ GE237.out | refine lS_ ?_ GE239.out) | exact HB.out)⟩
            ·rw [if_neg c70] at H
             have c70b0 : (((rd_T47 l0 x18_1).f1.f3) == 0) = false := beq_eq_false_iff_ne.mpr c70
             have c70b1 : (((rd_T47 l0 x18_1).f1.f3) != 0) = true := bne_iff_ne.mpr c70
             simp only [Option.some.injEq, Prod.mk.injEq] at H
             obtain ⟨rfl, rfl, rfl, rfl⟩ := H
             have hnb76 := NB237_235.out
             have hnc76 := NB235_237.out
             have hnb77 := NB237_239.out
             have hnc77 := NB239_237.out
             have hcz78_0 : wc.cell? ⟨gb237, 0, none⟩ = some (.int .i64 ((rd_T47 l0 x18_1).f1.f0)) := (blk_cell BK237.out 0).trans rfl
             have hcz78_1 : wc.cell? ⟨gb237, 1, none⟩ = some (.int .i64 ((rd_T47 l0 x18_1).f1.f1)) := (blk_cell BK237.out 1).trans rfl
             have hcz78_2 : wc.cell? ⟨gb237, 2, none⟩ = some (.int .i64 ((rd_T47 l0 x18_1).f1.f2)) := (blk_cell BK237.out 2).trans rfl
             have hcz78_3 : wc.cell? ⟨gb237, 3, none⟩ = some (.int .i64 ((rd_T47 l0 x18_1).f1.f3)) := (blk_cell BK237.out 3).trans rfl
             have hfz78_0 := blk_frozen BK237.out 0
             have hfz78_1 := blk_frozen BK237.out 1
             have hfz78_2 := blk_frozen BK237.out 2
             have hfz78_3 := blk_frozen BK237.out 3
             have hnb79 := NB235_239.out
             have hnc79 := NB239_235.out
             have hcz80_0 : wc.cell? ⟨gb235, 0, none⟩ = some (.int .i64 0) := (blk_cell BK235.out 0).trans rfl
             have hcz80_1 : wc.cell? ⟨gb235, 1, none⟩ = some (.int .i64 0) := (blk_cell BK235.out 1).trans rfl
             have hcz80_2 : wc.cell? ⟨gb235, 2, none⟩ = some (.int .i64 0) := (blk_cell BK235.out 2).trans rfl
             have hcz80_3 : wc.cell? ⟨gb235, 3, none⟩ = some (.int .i64 0) := (blk_cell BK235.out 3).trans rfl
             have hfz80_0 := blk_frozen BK235.out 0
             have hfz80_1 := blk_frozen BK235.out 1
             have hfz80_2 := blk_frozen BK235.out 2
             have hfz80_3 := blk_frozen BK235.out 3
             go_wp2
             refine bodyPost_ret (results_cell_row rfl _ _ gb235 38 #[.int .i64 ((rd_T47 l0 x18_1).f1.f0), .int .i64 ((rd_T47 l0 x18_1).f1.f1), .int .i64 ((rd_T47 l0 x18_1).f1.f2), .int .i64 ((rd_T47 l0 x18_1).f1.f3)] (0, 0) _ rfl (by (with_reducible repeat (first | refine bN_ ?_ _ | refine bD_ ?_ | refine bA_ ?_ _)); refine blk_put (cs := #[.int .i64 ((rd_T47 l0 x18_1).f1.f0), .int .i64 ((rd_T47 l0 x18_1).f1.f1), .int .i64 ((rd_T47 l0 x18_1).f1.f2), .int .i64 0]) ?_ 3 _ rfl; (with_reducible repeat (first | refine bN_ ?_ _ | refine bD_ ?_ | refine bA_ ?_ _)); refine blk_put (cs := #[.int .i64 ((rd_T47 l0 x18_1).f1.f0), .int .i64 ((rd_T47 l0 x18_1).f1.f1), .int .i64 0, .int .i64 0]) ?_ 2 _ rfl; (with_reducible repeat (first | refine bN_ ?_ _ | refine bD_ ?_ | refine bA_ ?_ _)); refine blk_put (cs := #[.int .i64 ((rd_T47 l0 x18_1).f1.f0), .int .i64 0, .int .i64 0, .int .i64 0]) ?_ 1 _ rfl; (with_reducible repeat (first | refine bN_ ?_ _ | refine bD_ ?_ | refine bA_ ?_ _)); refine blk_put (cs := #[.int .i64 0, .int .i64 0, .int .i64 0, .int .i64 0]) ?_ 0 _ rfl; (with_reducible repeat (first | refine bN_ ?_ _ | refine bD_ ?_ | refine bA_ ?_ _)); exact BK235.out) Try.underlying38 rfl (by kernel_rfl)) rfl ?_
             exact ⟨by first | rfl | (simp [errW_none, errW_some] <;> rfl) | (simp only [← hji3]; first | rfl | (simp [errW_none, errW_some] <;> rfl)) | (simp [*, errW_none, errW_some] <;> rfl), by repeat (first | (with_reducible first | exact HB.out | apply lA_ | apply lN_ | apply lD_ | refine lS_ ?_ GE235.out | refine lS_ ?_ GE237.out | refine lS_ ?_ GE239.out) | exact HB.out)⟩
       ·rw [if_neg c12] at H
        exact absurd H (by simp)
      ·rw [if_neg c11] at H
       exact absurd H (by simp)
     ·rw [if_neg c10] at H
      have c10b0 : decide (x18_1 < (l0.length : Int)) = false := decide_eq_false c10
      clear c10
      by_cases c81 : x238003_1 = 0
      ·rw [if_pos c81] at H
       have c81b0 : (x238003_1 == 0) = true := beq_iff_eq.mpr c81
       have c81b1 : (x238003_1 != 0) = false := bne_eq_false_iff_eq.mpr c81
       clear c81
       simp only [Option.some.injEq, Prod.mk.injEq] at H
       obtain ⟨rfl, rfl, rfl, rfl⟩ := H
       have hnb82 := NB237_235.out
       have hnc82 := NB235_237.out
       have hcz83_0 : wr.cell? ⟨gb237, 0, none⟩ = some (.int .i64 x238000_1) := (blk_cell BK237.out 0).trans rfl
       have hcz83_1 : wr.cell? ⟨gb237, 1, none⟩ = some (.int .i64 x238001_1) := (blk_cell BK237.out 1).trans rfl
       have hcz83_2 : wr.cell? ⟨gb237, 2, none⟩ = some (.int .i64 x238002_1) := (blk_cell BK237.out 2).trans rfl
       have hcz83_3 : wr.cell? ⟨gb237, 3, none⟩ = some (.int .i64 x238003_1) := (blk_cell BK237.out 3).trans rfl
       have hfz83_0 := blk_frozen BK237.out 0
       have hfz83_1 := blk_frozen BK237.out 1
       have hfz83_2 := blk_frozen BK237.out 2
       have hfz83_3 := blk_frozen BK237.out 3
       have hcz84_0 : wr.cell? ⟨gb235, 0, none⟩ = some (.int .i64 0) := (blk_cell BK235.out 0).trans rfl
       have hcz84_1 : wr.cell? ⟨gb235, 1, none⟩ = some (.int .i64 0) := (blk_cell BK235.out 1).trans rfl
       have hcz84_2 : wr.cell? ⟨gb235, 2, none⟩ = some (.int .i64 0) := (blk_cell BK235.out 2).trans rfl
       have hcz84_3 : wr.cell? ⟨gb235, 3, none⟩ = some (.int .i64 0) := (blk_cell BK235.out 3).trans rfl
       have hfz84_0 := blk_frozen BK235.out 0
       have hfz84_1 := blk_frozen BK235.out 1
       have hfz84_2 := blk_frozen BK235.out 2
       have hfz84_3 := blk_frozen BK235.out 3
       go_wp2
       refine bodyPost_ret (results_cell_row rfl _ _ gb235 38 #[.int .i64 0, .int .i64 0, .int .i64 0, .int .i64 0] (0, 0) _ rfl (by (with_reducible repeat (first | refine bN_ ?_ _ | refine bD_ ?_ | refine bA_ ?_ _)); refine blk_put (cs := #[.int .i64 0, .int .i64 0, .int .i64 0, .int .i64 0]) ?_ 3 _ rfl; (with_reducible repeat (first | refine bN_ ?_ _ | refine bD_ ?_ | refine bA_ ?_ _)); refine blk_put (cs := #[.int .i64 0, .int .i64 0, .int .i64 0, .int .i64 0]) ?_ 2 _ rfl; (with_reducible repeat (first | refine bN_ ?_ _ | refine bD_ ?_ | refine bA_ ?_ _)); refine blk_put (cs := #[.int .i64 0, .int .i64 0, .int .i64 0, .int .i64 0]) ?_ 1 _ rfl; (with_reducible repeat (first | refine bN_ ?_ _ | refine bD_ ?_ | refine bA_ ?_ _)); refine blk_put (cs := #[.int .i64 0, .int .i64 0, .int .i64 0, .int .i64 0]) ?_ 0 _ rfl; (with_reducible repeat (first | refine bN_ ?_ _ | refine bD_ ?_ | refine bA_ ?_ _)); exact BK235.out) Try.underlying38 rfl (by kernel_rfl)) rfl ?_
       exact ⟨by first | rfl | (simp [errW_none, errW_some] <;> rfl) | (simp only [← hji3]; first | rfl | (simp [errW_none, errW_some] <;> rfl)) | (simp [*, errW_none, errW_some] <;> rfl), by repeat (first | (with_reducible first | exact HB.out | apply lA_ | apply lN_ | apply lD_ | refine lS_ ?_ GE235.out | refine lS_ ?_ GE237.out) | exact HB.out)⟩
      ·rw [if_neg c81] at H
       have c81b0 : (x238003_1 == 0) = false := beq_eq_false_iff_ne.mpr c81
       have c81b1 : (x238003_1 != 0) = true := bne_iff_ne.mpr c81
       simp only [Option.some.injEq, Prod.mk.injEq] at H
       obtain ⟨rfl, rfl, rfl, rfl⟩ := H
       have hnb85 := NB237_235.out
       have hnc85 := NB235_237.out
       have hcz86_0 : wr.cell? ⟨gb237, 0, none⟩ = some (.int .i64 x238000_1) := (blk_cell BK237.out 0).trans rfl
       have hcz86_1 : wr.cell? ⟨gb237, 1, none⟩ = some (.int .i64 x238001_1) := (blk_cell BK237.out 1).trans rfl
       have hcz86_2 : wr.cell? ⟨gb237, 2, none⟩ = some (.int .i64 x238002_1) := (blk_cell BK237.out 2).trans rfl
       have hcz86_3 : wr.cell? ⟨gb237, 3, none⟩ = some (.int .i64 x238003_1) := (blk_cell BK237.out 3).trans rfl
       have hfz86_0 := blk_frozen BK237.out 0
       have hfz86_1 := blk_frozen BK237.out 1
       have hfz86_2 := blk_frozen BK237.out 2
       have hfz86_3 := blk_frozen BK237.out 3
       have hcz87_0 : wr.cell? ⟨gb235, 0, none⟩ = some (.int .i64 0) := (blk_cell BK235.out 0).trans rfl
       have hcz87_1 : wr.cell? ⟨gb235, 1, none⟩ = some (.int .i64 0) := (blk_cell BK235.out 1).trans rfl
       have hcz87_2 : wr.cell? ⟨gb235, 2, none⟩ = some (.int .i64 0) := (blk_cell BK235.out 2).trans rfl
       have hcz87_3 : wr.cell? ⟨gb235, 3, none⟩ = some (.int .i64 0) := (blk_cell BK235.out 3).trans rfl
       have hfz87_0 := blk_frozen BK235.out 0
       have hfz87_1 := blk_frozen BK235.out 1
       have hfz87_2 := blk_frozen BK235.out 2
       have hfz87_3 := blk_frozen BK235.out 3
       go_wp2
       refine bodyPost_ret (results_cell_row rfl _ _ gb235 38 #[.int .i64 x238000_1, .int .i64 x238001_1, .int .i64 x238002_1, .int .i64 x238003_1] (0, 0) _ rfl (by (with_reducible repeat (first | refine bN_ ?_ _ | refine bD_ ?_ | refine bA_ ?_ _)); refine blk_put (cs := #[.int .i64 x238000_1, .int .i64 x238001_1, .int .i64 x238002_1, .int .i64 0]) ?_ 3 _ rfl; (with_reducible repeat (first | refine bN_ ?_ _ | refine bD_ ?_ | refine bA_ ?_ _)); refine blk_put (cs := #[.int .i64 x238000_1, .int .i64 x238001_1, .int .i64 0, .int .i64 0]) ?_ 2 _ rfl; (with_reducible repeat (first | refine bN_ ?_ _ | refine bD_ ?_ | refine bA_ ?_ _)); refine blk_put (cs := #[.int .i64 x238000_1, .int .i64 0, .int .i64 0, .int .i64 0]) ?_ 1 _ rfl; (with_reducible repeat (first | refine bN_ ?_ _ | refine bD_ ?_ | refine bA_ ?_ _)); refine blk_put (cs := #[.int .i64 0, .int .i64 0, .int .i64 0, .int .i64 0]) ?_ 0 _ rfl; (with_reducible repeat (first | refine bN_ ?_ _ | refine bD_ ?_ | refine bA_ ?_ _)); exact BK235.out) Try.underlying38 rfl (by kernel_rfl)) rfl ?_
       exact ⟨by first | rfl | (simp [errW_none, errW_some] <;> rfl) | (simp only [← hji3]; first | rfl | (simp [errW_none, errW_some] <;> rfl)) | (simp [*, errW_none, errW_some] <;> rfl), by repeat (first | (with_reducible first | exact HB.out | apply lA_ | apply lN_ | apply lD_ | refine lS_ ?_ GE235.out | refine lS_ ?_ GE237.out) | exact HB.out)⟩
  ·rw [if_neg c5] at H
   exact absurd H (by simp)
 ·rw [if_neg c4] at H
  exact absurd H (by simp)

end Go.Proofs.Ytmlcobnidfkhfaa.Q
