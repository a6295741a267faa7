/- Each Go function of the law as a Lean function, with the proof that its call comes to just that, for every input; written by hp.py, a program of this session over the kit own print of the translation. -/
import Derived.Test.YtmlcobnidfkhfaaGg
import Derived.Test.YtmlcobnidfkhfaaQ0
import Derived.Test.YtmlcobnidfkhfaaQ1
namespace Go.Proofs.Ytmlcobnidfkhfaa.Q
open Go.RowKit Go.Proofs.YtmlcobnidfkhfaaW.PrintWords Go.Proofs.YtmlcobnidfkhfaaW.PrintLast Go.Proofs.YtmlcobnidfkhfaaW.PrintMore
attribute [local go_sem] max2_int min2_int max_two min_two max_three min_three max_four min_four   -- for this text's walks alone
set_option linter.unusedVariables false
set_option linter.unusedSimpArgs false
open Go.Proofs.Ytmlcobnidfkhfaa.Clo Go.Proofs.Ytmlcobnidfkhfaa.Mk0

attribute [local go_sem high] eqA38
/-! ### w18_same: function 21 -/
mutual
def w18_same.j0:Nat→Bool→Int→Int→List (S38)→Int→Int→List (S38)→Option (Bool)
 | 0,_,_,_,_,_,_,_=>none
 | k+1,x26,x483000,x483001,x483002,x484000,x484001,x484002=>if x26=true then (some false) else (w18_same.l0 k (x483002.length:Int) 0 x483000 x483001 x483002 x484000 x484001 x484002)
def w18_same.l0:Nat→Int→Int→Int→Int→List (S38)→Int→Int→List (S38)→Option (Bool)
 | 0,_,_,_,_,_,_,_,_=>none
 | k+1,x29,x30,x483000,x483001,x483002,x484000,x484001,x484002=>if x30<x29 then (if 0≤x30 then (if x30<(x483002.length:Int) then (if x30<(x484002.length:Int) then (if (!(((rd_T38 x483002 x30).f0)==((rd_T38 x484002 x30).f0)) || (!(((rd_T38 x483002 x30).f1)==((rd_T38 x484002 x30).f1)) || (!(((rd_T38 x483002 x30).f2)==((rd_T38 x484002 x30).f2)) || (!(((rd_T38 x483002 x30).f3)==((rd_T38 x484002 x30).f3))))))=true then (some false) else (w18_same.l0 k x29 (wrap64 (x30+1)) x483000 x483001 x483002 x484000 x484001 x484002)) else (none)) else (none)) else (none)) else (some true)
end
def w18_same.f (k:Nat) (a0_0:Int) (a0_1:Int) (l0_2:List (S38)) (a1_0:Int) (a1_1:Int) (l1_2:List (S38)):Option (Bool):=if a0_0=a1_0 then (if a0_1=a1_1 then (w18_same.j0 k ((l0_2.length:Int) != (l1_2.length:Int)) a0_0 a0_1 l0_2 a1_0 a1_1 l1_2) else (w18_same.j0 k true a0_0 a0_1 l0_2 a1_0 a1_1 l1_2)) else (w18_same.j0 k true a0_0 a0_1 l0_2 a1_0 a1_1 l1_2)
theorem w18_same.mono_l:∀ k,(∀ y0 y1 y2 y3 y4 y5 y6,LeO (w18_same.j0 k y0 y1 y2 y3 y4 y5 y6) (w18_same.j0 (k+1) y0 y1 y2 y3 y4 y5 y6))∧(∀ y0 y1 y2 y3 y4 y5 y6 y7,LeO (w18_same.l0 k y0 y1 y2 y3 y4 y5 y6 y7) (w18_same.l0 (k+1) y0 y1 y2 y3 y4 y5 y6 y7))
 | 0=>⟨fun _ _ _ _ _ _ _ r h=>by simp [w18_same.j0] at h,fun _ _ _ _ _ _ _ _ r h=>by simp [w18_same.l0] at h⟩
 | k+1=>by
  obtain ⟨ih0,ih1⟩:=w18_same.mono_l k;refine ⟨?_,?_⟩;intro y0 y1 y2 y3 y4 y5 y6;unfold w18_same.j0;rotate_left;intro y0 y1 y2 y3 y4 y5 y6 y7;unfold w18_same.l0;rotate_left
  all_goals repeat' first
   | (with_reducible exact ih0 _ _ _ _ _ _ _)
   | (with_reducible exact ih1 _ _ _ _ _ _ _ _)
   | (with_reducible exact LeO.refl _)
   | (with_reducible exact LeO.none _)
   | (with_reducible refine LeO.ite ?_ ?_)
   | (with_reducible refine LeO.bind ?_ (fun _=>?_))
theorem w18_same.mono:∀ a0 a1 a2 a3 a4 a5 k,LeO (w18_same.f k a0 a1 a2 a3 a4 a5) (w18_same.f (k+1) a0 a1 a2 a3 a4 a5):=by
 intro a0 a1 a2 a3 a4 a5 k;obtain ⟨ih0,ih1⟩:=w18_same.mono_l k
 unfold w18_same.f
 repeat' first
   | (with_reducible exact ih0 _ _ _ _ _ _ _)
   | (with_reducible exact ih1 _ _ _ _ _ _ _ _)
   | (with_reducible exact LeO.refl _)
   | (with_reducible exact LeO.none _)
   | (with_reducible refine LeO.ite ?_ ?_)
   | (with_reducible refine LeO.bind ?_ (fun _=>?_))
set_option maxHeartbeats 8000000 in
set_option maxRecDepth 100000 in
theorem w18_same.calls (k:Nat) (a0_0:Int) (a0_1:Int) (A0_2:Option Addr) (c0_2:Nat) (l0_2:List (S38)) (a1_0:Int) (a1_1:Int) (A1_2:Option Addr) (c1_2:Nat) (l1_2:List (S38)) (r:Bool) (w:World) (hr0_2:Kd.C k38 w A0_2 l0_2.length l0_2) (hc0_2:l0_2.length≤c0_2) (hr1_2:Kd.C k38 w A1_2 l1_2.length l1_2) (hc1_2:l1_2.length≤c1_2) (h:w18_same.f k a0_0 a0_1 l0_2 a1_0 a1_1 l1_2=some r) :
  Calls Try.prog 21 #[.agg #[.int .i64 a0_0,.int .i64 a0_1,.slice A0_2 l0_2.length c0_2],.agg #[.int .i64 a1_0,.int .i64 a1_1,.slice A1_2 l1_2.length c1_2]] w fun e w'=>e = .returned (.bool r)∧Below w.heap.size w w':=by
 have hu34:=Try.underlying34;have hu38:=Try.underlying38;have HR0_2:=Aside0.mk hr0_2;have HC0_2:=Aside0.mk hc0_2;clear hr0_2 hc0_2;have HR1_2:=Aside0.mk hr1_2;have HC1_2:=Aside0.mk hc1_2;clear hr1_2 hc1_2;have HB:=Aside0.mk (Below.refl w.heap.size w)
 have H:(if a0_0=a1_0 then (if a0_1=a1_1 then (w18_same.j0 k ((l0_2.length:Int) != (l1_2.length:Int)) a0_0 a0_1 l0_2 a1_0 a1_1 l1_2) else (w18_same.j0 k true a0_0 a0_1 l0_2 a1_0 a1_1 l1_2)) else (w18_same.j0 k true a0_0 a0_1 l0_2 a1_0 a1_1 l1_2))=some r:=h
 clear h;have HC3:=Aside0.mk H;clear H
 go_enter Try.func21,Try.ntmps21
 go_upto_region 1 with (first|((with_reducible refine gate_dst (N:=2) rfl ?_);(try (refine gate_grd (by rfl) ?_;dsimp only));refine box_event ?hg (N:=2) ?hd (cs:=#[.int .i64 a0_0,.int .i64 a0_1,.slice A0_2 l0_2.length c0_2]) (t:=34) ?hr ?_;(case hd=>rfl);(case hg=>rfl);(case hr=>first|(go_simp;done)|(go_simp;rfl));intro gb482 hg w4 hbox hb;have n0_:=Aside0.mk (below_step (by repeat first|(with_reducible first|exact HB.out|apply lA_|apply lN_|apply lD_)|exact HB.out) hb);have n1_:=Aside0.mk (hbox);have n2_:=Aside0.mk ((by rw [hg];exact (below_size (by repeat first|(with_reducible first|exact HB.out|apply lA_|apply lN_|apply lD_)|exact HB.out)):w.heap.size≤gb482));have n3_:=Aside0.mk ((by rw [hg];exact (below_size (by repeat first|(with_reducible first|exact HB.out|apply lA_|apply lN_|apply lD_)|exact HB.out)):w.heap.size≤gb482));clear HB;have HB:=n0_;have BK482:=n1_;have GW482:=n2_;have GE482:=n3_;clear n0_ n1_ n2_ n3_;clear hb hbox hg)|((with_reducible refine gate_dst (N:=3) rfl ?_);(try (refine gate_grd (by rfl) ?_;dsimp only));refine box_event ?hg (N:=3) ?hd (cs:=#[.int .i64 a1_0,.int .i64 a1_1,.slice A1_2 l1_2.length c1_2]) (t:=34) ?hr ?_;(case hd=>rfl);(case hg=>rfl);(case hr=>first|(go_simp;done)|(go_simp;rfl));intro gb483 hg w5 hbox hb;have n0_:=Aside0.mk (blk_below (by (with_reducible repeat first|apply bN_|apply bD_|apply bA_);exact BK482.out) hb);have n1_:=Aside0.mk (below_step (by repeat first|(with_reducible first|exact HB.out|apply lA_|apply lN_|apply lD_|refine lS_ ?_ GE482.out)|exact HB.out) hb);have n2_:=Aside0.mk (hbox);have n3_:=Aside0.mk ((by rw [hg];exact (below_size (by repeat first|(with_reducible first|exact HB.out|apply lA_|apply lN_|apply lD_|refine lS_ ?_ GE482.out)|exact HB.out)):w.heap.size≤gb483));have n4_:=Aside0.mk ((by rw [hg];exact (below_size (by repeat first|(with_reducible first|exact HB.out|apply lA_|apply lN_|apply lD_|refine lS_ ?_ GE482.out)|exact HB.out)):w.heap.size≤gb483));have n5_:=Aside0.mk ((by rw [hg];exact Nat.ne_of_lt (blk_lt (g:=gb482) (o:=.cells #[.int .i64 a0_0,.int .i64 a0_1,.slice A0_2 l0_2.length c0_2] 34 (0,0)) (by (with_reducible repeat first|apply bN_|apply bD_|apply bA_);exact BK482.out)):gb482 ≠ gb483));have n6_:=Aside0.mk ((by rw [hg];exact Nat.ne_of_gt (blk_lt (g:=gb482) (o:=.cells #[.int .i64 a0_0,.int .i64 a0_1,.slice A0_2 l0_2.length c0_2] 34 (0,0)) (by (with_reducible repeat first|apply bN_|apply bD_|apply bA_);exact BK482.out)):gb483 ≠ gb482));clear BK482;clear HB;have BK482:=n0_;have HB:=n1_;have BK483:=n2_;have GW483:=n3_;have GE483:=n4_;have NB482_483:=n5_;have NB483_482:=n6_;clear n0_ n1_ n2_ n3_ n4_ n5_ n6_;clear hb hbox hg))
 repeat (go_quiet (first|((with_reducible refine gate_dst (N:=2) rfl ?_);(try (refine gate_grd (by rfl) ?_;dsimp only));refine box_event ?hg (N:=2) ?hd (cs:=#[.int .i64 a0_0,.int .i64 a0_1,.slice A0_2 l0_2.length c0_2]) (t:=34) ?hr ?_;(case hd=>rfl);(case hg=>rfl);(case hr=>first|(go_simp;done)|(go_simp;rfl));intro gb482 hg w4 hbox hb;have n0_:=Aside0.mk (below_step (by repeat first|(with_reducible first|exact HB.out|apply lA_|apply lN_|apply lD_)|exact HB.out) hb);have n1_:=Aside0.mk (hbox);have n2_:=Aside0.mk ((by rw [hg];exact (below_size (by repeat first|(with_reducible first|exact HB.out|apply lA_|apply lN_|apply lD_)|exact HB.out)):w.heap.size≤gb482));have n3_:=Aside0.mk ((by rw [hg];exact (below_size (by repeat first|(with_reducible first|exact HB.out|apply lA_|apply lN_|apply lD_)|exact HB.out)):w.heap.size≤gb482));clear HB;have HB:=n0_;have BK482:=n1_;have GW482:=n2_;have GE482:=n3_;clear n0_ n1_ n2_ n3_;clear hb hbox hg)|((with_reducible refine gate_dst (N:=3) rfl ?_);(try (refine gate_grd (by rfl) ?_;dsimp only));refine box_event ?hg (N:=3) ?hd (cs:=#[.int .i64 a1_0,.int .i64 a1_1,.slice A1_2 l1_2.length c1_2]) (t:=34) ?hr ?_;(case hd=>rfl);(case hg=>rfl);(case hr=>first|(go_simp;done)|(go_simp;rfl));intro gb483 hg w5 hbox hb;have n0_:=Aside0.mk (blk_below (by (with_reducible repeat first|apply bN_|apply bD_|apply bA_);exact BK482.out) hb);have n1_:=Aside0.mk (below_step (by repeat first|(with_reducible first|exact HB.out|apply lA_|apply lN_|apply lD_|refine lS_ ?_ GE482.out)|exact HB.out) hb);have n2_:=Aside0.mk (hbox);have n3_:=Aside0.mk ((by rw [hg];exact (below_size (by repeat first|(with_reducible first|exact HB.out|apply lA_|apply lN_|apply lD_|refine lS_ ?_ GE482.out)|exact HB.out)):w.heap.size≤gb483));have n4_:=Aside0.mk ((by rw [hg];exact (below_size (by repeat first|(with_reducible first|exact HB.out|apply lA_|apply lN_|apply lD_|refine lS_ ?_ GE482.out)|exact HB.out)):w.heap.size≤gb483));have n5_:=Aside0.mk ((by rw [hg];exact Nat.ne_of_lt (blk_lt (g:=gb482) (o:=.cells #[.int .i64 a0_0,.int .i64 a0_1,.slice A0_2 l0_2.length c0_2] 34 (0,0)) (by (with_reducible repeat first|apply bN_|apply bD_|apply bA_);exact BK482.out)):gb482 ≠ gb483));have n6_:=Aside0.mk ((by rw [hg];exact Nat.ne_of_gt (blk_lt (g:=gb482) (o:=.cells #[.int .i64 a0_0,.int .i64 a0_1,.slice A0_2 l0_2.length c0_2] 34 (0,0)) (by (with_reducible repeat first|apply bN_|apply bD_|apply bA_);exact BK482.out)):gb483 ≠ gb482));clear BK482;clear HB;have BK482:=n0_;have HB:=n1_;have BK483:=n2_;have GW483:=n3_;have GE483:=n4_;have NB482_483:=n5_;have NB483_482:=n6_;clear n0_ n1_ n2_ n3_ n4_ n5_ n6_;clear hb hbox hg));go_upto_region 1 with (first|((with_reducible refine gate_dst (N:=2) rfl ?_);(try (refine gate_grd (by rfl) ?_;dsimp only));refine box_event ?hg (N:=2) ?hd (cs:=#[.int .i64 a0_0,.int .i64 a0_1,.slice A0_2 l0_2.length c0_2]) (t:=34) ?hr ?_;(case hd=>rfl);(case hg=>rfl);(case hr=>first|(go_simp;done)|(go_simp;rfl));intro gb482 hg w4 hbox hb;have n0_:=Aside0.mk (below_step (by repeat first|(with_reducible first|exact HB.out|apply lA_|apply lN_|apply lD_)|exact HB.out) hb);have n1_:=Aside0.mk (hbox);have n2_:=Aside0.mk ((by rw [hg];exact (below_size (by repeat first|(with_reducible first|exact HB.out|apply lA_|apply lN_|apply lD_)|exact HB.out)):w.heap.size≤gb482));have n3_:=Aside0.mk ((by rw [hg];exact (below_size (by repeat first|(with_reducible first|exact HB.out|apply lA_|apply lN_|apply lD_)|exact HB.out)):w.heap.size≤gb482));clear HB;have HB:=n0_;have BK482:=n1_;have GW482:=n2_;have GE482:=n3_;clear n0_ n1_ n2_ n3_;clear hb hbox hg)|((with_reducible refine gate_dst (N:=3) rfl ?_);(try (refine gate_grd (by rfl) ?_;dsimp only));refine box_event ?hg (N:=3) ?hd (cs:=#[.int .i64 a1_0,.int .i64 a1_1,.slice A1_2 l1_2.length c1_2]) (t:=34) ?hr ?_;(case hd=>rfl);(case hg=>rfl);(case hr=>first|(go_simp;done)|(go_simp;rfl));intro gb483 hg w5 hbox hb;have n0_:=Aside0.mk (blk_below (by (with_reducible repeat first|apply bN_|apply bD_|apply bA_);exact BK482.out) hb);have n1_:=Aside0.mk (below_step (by repeat first|(with_reducible first|exact HB.out|apply lA_|apply lN_|apply lD_|refine lS_ ?_ GE482.out)|exact HB.out) hb);have n2_:=Aside0.mk (hbox);have n3_:=Aside0.mk ((by rw [hg];exact (below_size (by repeat first|(with_reducible first|exact HB.out|apply lA_|apply lN_|apply lD_|refine lS_ ?_ GE482.out)|exact HB.out)):w.heap.size≤gb483));have n4_:=Aside0.mk ((by rw [hg];exact (below_size (by repeat first|(with_reducible first|exact HB.out|apply lA_|apply lN_|apply lD_|refine lS_ ?_ GE482.out)|exact HB.out)):w.heap.size≤gb483));have n5_:=Aside0.mk ((by rw [hg];exact Nat.ne_of_lt (blk_lt (g:=gb482) (o:=.cells #[.int .i64 a0_0,.int .i64 a0_1,.slice A0_2 l0_2.length c0_2] 34 (0,0)) (by (with_reducible repeat first|apply bN_|apply bD_|apply bA_);exact BK482.out)):gb482 ≠ gb483));have n6_:=Aside0.mk ((by rw [hg];exact Nat.ne_of_gt (blk_lt (g:=gb482) (o:=.cells #[.int .i64 a0_0,.int .i64 a0_1,.slice A0_2 l0_2.length c0_2] 34 (0,0)) (by (with_reducible repeat first|apply bN_|apply bD_|apply bA_);exact BK482.out)):gb483 ≠ gb482));clear BK482;clear HB;have BK482:=n0_;have HB:=n1_;have BK483:=n2_;have GW483:=n3_;have GE483:=n4_;have NB482_483:=n5_;have NB483_482:=n6_;clear n0_ n1_ n2_ n3_ n4_ n5_ n6_;clear hb hbox hg)))
 (try simp only [Act.put,tS_,tZ_,tC_])
 go_cut [26] (fun v26 wc=>∃ (kq:Nat) (x26_2:Bool),v26 = .bool x26_2∧Aside0 (w18_same.j0 kq x26_2 a0_0 a0_1 l0_2 a1_0 a1_1 l1_2=some r)∧Aside0 (kq≤k)∧Aside0 (wc.heap[gb482]? = some (.cells #[.int .i64 a0_0,.int .i64 a0_1,(.slice A0_2 l0_2.length c0_2)] 34 (0,0)))∧Aside0 (wc.heap[gb483]? = some (.cells #[.int .i64 a1_0,.int .i64 a1_1,(.slice A1_2 l1_2.length c1_2)] 34 (0,0)))∧Aside0 (Below w.heap.size w wc))
 case first =>
  have H:=HC3.out;clear HC3;by_cases c6:a0_0=a1_0
  ·rw [if_pos c6] at H
   have c6b0:=beq_iff_eq.mpr c6;have c6b1:=bne_eq_false_iff_eq.mpr c6;clear c6
   (first|rw [c6b0]|(simp only [i64_w,i32_w];rw [c6b0])|skip)
   by_cases c7:a0_1=a1_1
   ·rw [if_pos c7] at H
    have c7b0:=beq_iff_eq.mpr c7;have c7b1:=bne_eq_false_iff_eq.mpr c7;clear c7;have H':=Aside0.mk H;clear H;have hnb8:=NB482_483.out;have hnc8:=NB483_482.out;have hcz9_0:w5.cell? ⟨gb482,0,none⟩=some (.int .i64 a0_0):=(blk_cell BK482.out 0).trans rfl;have hcz9_1:w5.cell? ⟨gb482,1,none⟩=some (.int .i64 a0_1):=(blk_cell BK482.out 1).trans rfl;have hcz9_2:w5.cell? ⟨gb482,2,none⟩=some (.slice A0_2 l0_2.length c0_2):=(blk_cell BK482.out 2).trans rfl;have hfz9_0:=blk_frozen BK482.out 0;have hfz9_1:=blk_frozen BK482.out 1;have hfz9_2:=blk_frozen BK482.out 2;have hcz10_0:w5.cell? ⟨gb483,0,none⟩=some (.int .i64 a1_0):=(blk_cell BK483.out 0).trans rfl;have hcz10_1:w5.cell? ⟨gb483,1,none⟩=some (.int .i64 a1_1):=(blk_cell BK483.out 1).trans rfl;have hcz10_2:w5.cell? ⟨gb483,2,none⟩=some (.slice A1_2 l1_2.length c1_2):=(blk_cell BK483.out 2).trans rfl;have hfz10_0:=blk_frozen BK483.out 0;have hfz10_1:=blk_frozen BK483.out 1;have hfz10_2:=blk_frozen BK483.out 2
    go_wp2
    repeat (go_quiet (fail);try go_wp2)
    go_meet
    case rel=>exact ⟨_,(((l0_2.length:Int) != (l1_2.length:Int))),(by first|rfl|(simp;done)|(simp [*];done)),H',⟨by first|omega|exact Nat.le_refl _⟩,⟨by (with_reducible repeat first|apply bN_|apply bD_|apply bA_);exact BK482.out⟩,⟨by (with_reducible repeat first|apply bN_|apply bD_|apply bA_);exact BK483.out⟩,⟨by repeat first|(with_reducible first|exact HB.out|apply lA_|apply lN_|apply lD_|refine lS_ ?_ GE482.out|refine lS_ ?_ GE483.out)|exact HB.out⟩⟩
   rw [if_neg c7] at H;have c7b0:(a0_1==a1_1)=false:=beq_eq_false_iff_ne.mpr c7;have c7b1:(a0_1 != a1_1)=true:=bne_iff_ne.mpr c7;have H':=Aside0.mk H;clear H;have hnb11:=NB482_483.out;have hnc11:=NB483_482.out;have hcz12_0:w5.cell? ⟨gb482,0,none⟩=some (.int .i64 a0_0):=(blk_cell BK482.out 0).trans rfl;have hcz12_1:w5.cell? ⟨gb482,1,none⟩=some (.int .i64 a0_1):=(blk_cell BK482.out 1).trans rfl;have hcz12_2:w5.cell? ⟨gb482,2,none⟩=some (.slice A0_2 l0_2.length c0_2):=(blk_cell BK482.out 2).trans rfl;have hfz12_0:=blk_frozen BK482.out 0;have hfz12_1:=blk_frozen BK482.out 1;have hfz12_2:=blk_frozen BK482.out 2;have hcz13_0:w5.cell? ⟨gb483,0,none⟩=some (.int .i64 a1_0):=(blk_cell BK483.out 0).trans rfl;have hcz13_1:w5.cell? ⟨gb483,1,none⟩=some (.int .i64 a1_1):=(blk_cell BK483.out 1).trans rfl;have hcz13_2:w5.cell? ⟨gb483,2,none⟩=some (.slice A1_2 l1_2.length c1_2):=(blk_cell BK483.out 2).trans rfl;have hfz13_0:=blk_frozen BK483.out 0;have hfz13_1:=blk_frozen BK483.out 1;have hfz13_2:=blk_frozen BK483.out 2
   go_wp2
   repeat (go_quiet (fail);try go_wp2)
   go_meet
   case rel=>exact ⟨_,(true),(by first|rfl|(simp;done)|(simp [*];done)),H',⟨by first|omega|exact Nat.le_refl _⟩,⟨by (with_reducible repeat first|apply bN_|apply bD_|apply bA_);exact BK482.out⟩,⟨by (with_reducible repeat first|apply bN_|apply bD_|apply bA_);exact BK483.out⟩,⟨by repeat first|(with_reducible first|exact HB.out|apply lA_|apply lN_|apply lD_|refine lS_ ?_ GE482.out|refine lS_ ?_ GE483.out)|exact HB.out⟩⟩
  rw [if_neg c6] at H;have c6b0:(a0_0==a1_0)=false:=beq_eq_false_iff_ne.mpr c6;have c6b1:(a0_0 != a1_0)=true:=bne_iff_ne.mpr c6
  (first|rw [c6b0]|(simp only [i64_w,i32_w];rw [c6b0])|skip)
  have H':=Aside0.mk H;clear H;have hnb14:=NB482_483.out;have hnc14:=NB483_482.out;have hcz15_0:w5.cell? ⟨gb482,0,none⟩=some (.int .i64 a0_0):=(blk_cell BK482.out 0).trans rfl;have hcz15_1:w5.cell? ⟨gb482,1,none⟩=some (.int .i64 a0_1):=(blk_cell BK482.out 1).trans rfl;have hcz15_2:w5.cell? ⟨gb482,2,none⟩=some (.slice A0_2 l0_2.length c0_2):=(blk_cell BK482.out 2).trans rfl;have hfz15_0:=blk_frozen BK482.out 0;have hfz15_1:=blk_frozen BK482.out 1;have hfz15_2:=blk_frozen BK482.out 2;have hcz16_0:w5.cell? ⟨gb483,0,none⟩=some (.int .i64 a1_0):=(blk_cell BK483.out 0).trans rfl;have hcz16_1:w5.cell? ⟨gb483,1,none⟩=some (.int .i64 a1_1):=(blk_cell BK483.out 1).trans rfl;have hcz16_2:w5.cell? ⟨gb483,2,none⟩=some (.slice A1_2 l1_2.length c1_2):=(blk_cell BK483.out 2).trans rfl;have hfz16_0:=blk_frozen BK483.out 0;have hfz16_1:=blk_frozen BK483.out 1;have hfz16_2:=blk_frozen BK483.out 2
  go_wp2
  repeat (go_quiet (fail);try go_wp2)
  go_meet
  case rel=>exact ⟨_,(true),(by first|rfl|(simp;done)|(simp [*];done)),H',⟨by first|omega|exact Nat.le_refl _⟩,⟨by (with_reducible repeat first|apply bN_|apply bD_|apply bA_);exact BK482.out⟩,⟨by (with_reducible repeat first|apply bN_|apply bD_|apply bA_);exact BK483.out⟩,⟨by repeat first|(with_reducible first|exact HB.out|apply lA_|apply lN_|apply lD_|refine lS_ ?_ GE482.out|refine lS_ ?_ GE483.out)|exact HB.out⟩⟩
 case rest =>
  clear HC3;obtain ⟨kq,x26_2,rfl,HA,HJ2,BK482,BK483,HB⟩:=hcut
  cases kq with
  | zero=>exact absurd HA.out (by simp [w18_same.j0])
  | succ kj2 =>
   have H:=HA.out;clear HA;simp only [w18_same.j0] at H;by_cases c17:x26_2=true
   ·subst c17
    have H1:(some false)=some r:=by rw [if_pos rfl] at H;exact H
    clear H;have H:=H1;clear H1;obtain rfl:=Option.some.inj H
    go_wp2
    repeat (go_quiet (fail);try go_wp2)
    go_ret
    exact ⟨by first|rfl|(simp [errW_none,errW_some] <;> rfl)|(simp [*,errW_none,errW_some] <;> rfl),by repeat first|(with_reducible first|exact HB.out|apply lA_|apply lN_|apply lD_|refine lS_ ?_ GE482.out|refine lS_ ?_ GE483.out)|exact HB.out⟩
   replace c17:=Bool.eq_false_iff.mpr c17;subst c17
   have H1:(w18_same.l0 kj2 (l0_2.length:Int) 0 a0_0 a0_1 l0_2 a1_0 a1_1 l1_2)=some r:=by rw [if_neg (show ¬ (false=true) by decide)] at H;exact H
   clear H;have H:=H1;clear H1;have H':=Aside0.mk H;clear H;have hnb18:=NB482_483.out;have hnc18:=NB483_482.out;have hcz19_0:wc.cell? ⟨gb482,0,none⟩=some (.int .i64 a0_0):=(blk_cell BK482.out 0).trans rfl;have hcz19_1:wc.cell? ⟨gb482,1,none⟩=some (.int .i64 a0_1):=(blk_cell BK482.out 1).trans rfl;have hcz19_2:wc.cell? ⟨gb482,2,none⟩=some (.slice A0_2 l0_2.length c0_2):=(blk_cell BK482.out 2).trans rfl;have hfz19_0:=blk_frozen BK482.out 0;have hfz19_1:=blk_frozen BK482.out 1;have hfz19_2:=blk_frozen BK482.out 2
   go_wp2
   repeat (go_quiet (fail);try go_wp2)
   go_loopg [30] kj2 (fun kq v30 w'=>∃ (x30_2:Int),v30 = .int .i64 x30_2∧Aside0 (w18_same.l0 kq (l0_2.length:Int) x30_2 a0_0 a0_1 l0_2 a1_0 a1_1 l1_2=some r)∧Aside0 (kq≤kj2)∧Aside0 (w'.heap[gb482]? = some (.cells #[.int .i64 a0_0,.int .i64 a0_1,(.slice A0_2 l0_2.length c0_2)] 34 (0,0)))∧Aside0 (w'.heap[gb483]? = some (.cells #[.int .i64 a1_0,.int .i64 a1_1,(.slice A1_2 l1_2.length c1_2)] 34 (0,0)))∧Aside0 (Below w.heap.size w w'))
   case atStart=>exact ⟨(0),(by first|rfl|(simp;done)|(simp [*];done)),H',⟨Nat.le_refl _⟩,⟨by (with_reducible repeat first|apply bN_|apply bD_|apply bA_);exact BK482.out⟩,⟨by (with_reducible repeat first|apply bN_|apply bD_|apply bA_);exact BK483.out⟩,⟨by repeat first|(with_reducible first|exact HB.out|apply lA_|apply lN_|apply lD_|refine lS_ ?_ GE482.out|refine lS_ ?_ GE483.out)|exact HB.out⟩⟩
   case round =>
    clear H';obtain ⟨x30_2,rfl,HA,HK2,BK482,BK483,HB⟩:=hrel
    cases gk with
    | zero=>exact absurd HA.out (by simp [w18_same.l0])
    | succ k2 =>
     have H:=HA.out;clear HA;simp only [w18_same.l0] at H;by_cases c20:x30_2<(l0_2.length:Int)
     ·rw [if_pos c20] at H
      have c20b0:=decide_eq_true c20;clear c20;by_cases c21:0≤x30_2
      ·rw [if_pos c21] at H
       have c21b0:=decide_eq_true c21;clear c21;by_cases c22:x30_2<(l0_2.length:Int)
       ·rw [if_pos c22] at H
        have c22b0:=decide_eq_true c22;clear c22;by_cases c23:x30_2<(l1_2.length:Int)
        ·rw [if_pos c23] at H
         have c23b0:=decide_eq_true c23;clear c23;by_cases c24:(!(((rd_T38 l0_2 x30_2).f0)==((rd_T38 l1_2 x30_2).f0)) || (!(((rd_T38 l0_2 x30_2).f1)==((rd_T38 l1_2 x30_2).f1)) || (!(((rd_T38 l0_2 x30_2).f2)==((rd_T38 l1_2 x30_2).f2)) || (!(((rd_T38 l0_2 x30_2).f3)==((rd_T38 l1_2 x30_2).f3))))))=true
         ·rw [if_pos c24] at H
          have c24b0:(!(((rd_T38 l0_2 x30_2).f0)==((rd_T38 l1_2 x30_2).f0)) || (!(((rd_T38 l0_2 x30_2).f1)==((rd_T38 l1_2 x30_2).f1)) || (!(((rd_T38 l0_2 x30_2).f2)==((rd_T38 l1_2 x30_2).f2)) || (!(((rd_T38 l0_2 x30_2).f3)==((rd_T38 l1_2 x30_2).f3))))))=true:=c24;clear c24;obtain rfl:=Option.some.inj H;have hnb25:=NB482_483.out;have hnc25:=NB483_482.out;have hcz26_0:wr.cell? ⟨gb482,0,none⟩=some (.int .i64 a0_0):=(blk_cell BK482.out 0).trans rfl;have hcz26_1:wr.cell? ⟨gb482,1,none⟩=some (.int .i64 a0_1):=(blk_cell BK482.out 1).trans rfl;have hcz26_2:wr.cell? ⟨gb482,2,none⟩=some (.slice A0_2 l0_2.length c0_2):=(blk_cell BK482.out 2).trans rfl;have hfz26_0:=blk_frozen BK482.out 0;have hfz26_1:=blk_frozen BK482.out 1;have hfz26_2:=blk_frozen BK482.out 2
          have p484:0≤(x30_2:Int):=of_decide_eq_true (by first|(with_reducible assumption)|assumption)
          have q484:x30_2<(l0_2.length:Int):=of_decide_eq_true (by first|(with_reducible assumption)|assumption)
          obtain ⟨ad484,e484,hx484_0,hx484_1,hx484_2,hx484_3⟩:=at_T38 HR0_2.out x30_2 p484 q484;cases e484;replace hx484_0:=(HB.out.cell (World.block_lt_of_cell? w _ hx484_0)).trans hx484_0;replace hx484_1:=(HB.out.cell (World.block_lt_of_cell? w _ hx484_1)).trans hx484_1;replace hx484_2:=(HB.out.cell (World.block_lt_of_cell? w _ hx484_2)).trans hx484_2;replace hx484_3:=(HB.out.cell (World.block_lt_of_cell? w _ hx484_3)).trans hx484_3;replace p484:=eq_true p484;replace q484:=eq_true q484;have hcz27_0:wr.cell? ⟨gb483,0,none⟩=some (.int .i64 a1_0):=(blk_cell BK483.out 0).trans rfl;have hcz27_1:wr.cell? ⟨gb483,1,none⟩=some (.int .i64 a1_1):=(blk_cell BK483.out 1).trans rfl;have hcz27_2:wr.cell? ⟨gb483,2,none⟩=some (.slice A1_2 l1_2.length c1_2):=(blk_cell BK483.out 2).trans rfl;have hfz27_0:=blk_frozen BK483.out 0;have hfz27_1:=blk_frozen BK483.out 1;have hfz27_2:=blk_frozen BK483.out 2
          have p485:0≤(x30_2:Int):=of_decide_eq_true (by first|(with_reducible assumption)|assumption)
          have q485:x30_2<(l1_2.length:Int):=of_decide_eq_true (by first|(with_reducible assumption)|assumption)
          obtain ⟨ad485,e485,hx485_0,hx485_1,hx485_2,hx485_3⟩:=at_T38 HR1_2.out x30_2 p485 q485;cases e485;replace hx485_0:=(HB.out.cell (World.block_lt_of_cell? w _ hx485_0)).trans hx485_0;replace hx485_1:=(HB.out.cell (World.block_lt_of_cell? w _ hx485_1)).trans hx485_1;replace hx485_2:=(HB.out.cell (World.block_lt_of_cell? w _ hx485_2)).trans hx485_2;replace hx485_3:=(HB.out.cell (World.block_lt_of_cell? w _ hx485_3)).trans hx485_3;replace p485:=eq_true p485;replace q485:=eq_true q485
          go_wp2
          repeat (go_quiet (fail);try go_wp2)
          go_ret
          exact ⟨by first|rfl|(simp [errW_none,errW_some] <;> rfl)|(simp [*,errW_none,errW_some] <;> rfl),by repeat first|(with_reducible first|exact HB.out|apply lA_|apply lN_|apply lD_|refine lS_ ?_ GE482.out|refine lS_ ?_ GE483.out)|exact HB.out⟩
         rw [if_neg c24] at H
         have c24b0:(!(((rd_T38 l0_2 x30_2).f0)==((rd_T38 l1_2 x30_2).f0)) || (!(((rd_T38 l0_2 x30_2).f1)==((rd_T38 l1_2 x30_2).f1)) || (!(((rd_T38 l0_2 x30_2).f2)==((rd_T38 l1_2 x30_2).f2)) || (!(((rd_T38 l0_2 x30_2).f3)==((rd_T38 l1_2 x30_2).f3))))))=false:=by simpa using c24
         clear c24;have H':=Aside0.mk H;clear H;have hnb28:=NB482_483.out;have hnc28:=NB483_482.out;have hcz29_0:wr.cell? ⟨gb482,0,none⟩=some (.int .i64 a0_0):=(blk_cell BK482.out 0).trans rfl;have hcz29_1:wr.cell? ⟨gb482,1,none⟩=some (.int .i64 a0_1):=(blk_cell BK482.out 1).trans rfl;have hcz29_2:wr.cell? ⟨gb482,2,none⟩=some (.slice A0_2 l0_2.length c0_2):=(blk_cell BK482.out 2).trans rfl;have hfz29_0:=blk_frozen BK482.out 0;have hfz29_1:=blk_frozen BK482.out 1;have hfz29_2:=blk_frozen BK482.out 2
         have p484:0≤(x30_2:Int):=of_decide_eq_true (by first|(with_reducible assumption)|assumption)
         have q484:x30_2<(l0_2.length:Int):=of_decide_eq_true (by first|(with_reducible assumption)|assumption)
         obtain ⟨ad484,e484,hx484_0,hx484_1,hx484_2,hx484_3⟩:=at_T38 HR0_2.out x30_2 p484 q484;cases e484;replace hx484_0:=(HB.out.cell (World.block_lt_of_cell? w _ hx484_0)).trans hx484_0;replace hx484_1:=(HB.out.cell (World.block_lt_of_cell? w _ hx484_1)).trans hx484_1;replace hx484_2:=(HB.out.cell (World.block_lt_of_cell? w _ hx484_2)).trans hx484_2;replace hx484_3:=(HB.out.cell (World.block_lt_of_cell? w _ hx484_3)).trans hx484_3;replace p484:=eq_true p484;replace q484:=eq_true q484;have hcz30_0:wr.cell? ⟨gb483,0,none⟩=some (.int .i64 a1_0):=(blk_cell BK483.out 0).trans rfl;have hcz30_1:wr.cell? ⟨gb483,1,none⟩=some (.int .i64 a1_1):=(blk_cell BK483.out 1).trans rfl;have hcz30_2:wr.cell? ⟨gb483,2,none⟩=some (.slice A1_2 l1_2.length c1_2):=(blk_cell BK483.out 2).trans rfl;have hfz30_0:=blk_frozen BK483.out 0;have hfz30_1:=blk_frozen BK483.out 1;have hfz30_2:=blk_frozen BK483.out 2
         have p485:0≤(x30_2:Int):=of_decide_eq_true (by first|(with_reducible assumption)|assumption)
         have q485:x30_2<(l1_2.length:Int):=of_decide_eq_true (by first|(with_reducible assumption)|assumption)
         obtain ⟨ad485,e485,hx485_0,hx485_1,hx485_2,hx485_3⟩:=at_T38 HR1_2.out x30_2 p485 q485;cases e485;replace hx485_0:=(HB.out.cell (World.block_lt_of_cell? w _ hx485_0)).trans hx485_0;replace hx485_1:=(HB.out.cell (World.block_lt_of_cell? w _ hx485_1)).trans hx485_1;replace hx485_2:=(HB.out.cell (World.block_lt_of_cell? w _ hx485_2)).trans hx485_2;replace hx485_3:=(HB.out.cell (World.block_lt_of_cell? w _ hx485_3)).trans hx485_3;replace p485:=eq_true p485;replace q485:=eq_true q485
         go_wp2
         repeat (go_quiet (fail);try go_wp2)
         go_roundg k2
         case measure=>have:=HJ2.out;have:=HK2.out;omega
         case rel=>exact ⟨(wrap64 (x30_2+1)),(by first|rfl|(simp;done)|(simp [*];done)),H',⟨by have:=HJ2.out;have:=HK2.out;omega⟩,⟨by (with_reducible repeat first|apply bN_|apply bD_|apply bA_);exact BK482.out⟩,⟨by (with_reducible repeat first|apply bN_|apply bD_|apply bA_);exact BK483.out⟩,⟨by repeat first|(with_reducible first|exact HB.out|apply lA_|apply lN_|apply lD_|refine lS_ ?_ GE482.out|refine lS_ ?_ GE483.out)|exact HB.out⟩⟩
        rw [if_neg c23] at H
        exact absurd H (by simp)
       rw [if_neg c22] at H
       exact absurd H (by simp)
      rw [if_neg c21] at H
      exact absurd H (by simp)
     rw [if_neg c20] at H;have c20b0:=decide_eq_false c20;clear c20;obtain rfl:=Option.some.inj H
     go_wp2
     repeat (go_quiet (fail);try go_wp2)
     go_ret
     exact ⟨by first|rfl|(simp [errW_none,errW_some] <;> rfl)|(simp [*,errW_none,errW_some] <;> rfl),by repeat first|(with_reducible first|exact HB.out|apply lA_|apply lN_|apply lD_|refine lS_ ?_ GE482.out|refine lS_ ?_ GE483.out)|exact HB.out⟩

end Go.Proofs.Ytmlcobnidfkhfaa.Q
