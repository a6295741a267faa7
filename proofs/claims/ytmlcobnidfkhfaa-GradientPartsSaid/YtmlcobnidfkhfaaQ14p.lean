/- Each Go function of the law as a Lean function, with the proof that its call comes to just that, for every input; written by hp.py, a program of this session over the kit own print of the translation. -/
import Derived.Test.YtmlcobnidfkhfaaGg
import Derived.Test.YtmlcobnidfkhfaaQ0
import Derived.Test.YtmlcobnidfkhfaaQ1
import Derived.Test.YtmlcobnidfkhfaaQ12
import Derived.Test.YtmlcobnidfkhfaaQ13
namespace Go.Proofs.Ytmlcobnidfkhfaa.Q
open Go.RowKit Go.Proofs.YtmlcobnidfkhfaaW.PrintWords Go.Proofs.YtmlcobnidfkhfaaW.PrintLast Go.Proofs.YtmlcobnidfkhfaaW.PrintMore
attribute [local go_sem] max2_int min2_int max_two min_two max_three min_three max_four min_four   -- for this text's walks alone
set_option linter.unusedVariables false
set_option linter.unusedSimpArgs false
open Go.Proofs.Ytmlcobnidfkhfaa.Clo Go.Proofs.Ytmlcobnidfkhfaa.Mk0

attribute [local go_sem high] eqA38
/-! ### w18_GradientParts: function 4 -/
def w18_GradientParts.j0:Nat→Int→List Int→Int→List (S47)→Int→Int→Bool→Int→Int→Int→Int→Option (Bool)
 | 0,_,_,_,_,_,_,_,_,_,_,_=>none
 | k + 1,x0,x1,x2,x3,x5,x6,x36,x348000,x348001,x348002,x348003=>if x36 = true then ((w18_awake.f k).bind fun t348=>(some t348)) else ((gr_Draw.f k x0 x1 x2 x3 x348000 x348001 x348002 x348003).bind fun bt349=>(if bt349.2.2.2 = 0 then ((gr_Draw.f k x0 x1 x2 x3 (wrap64 (x348000 + x5)) (wrap64 (x348001 + x6)) 1 1).bind fun bt356=>(if bt356.2.2.2 = 0 then (if (bt349.2.2.1.length:Int) = (wrap64 (x348002 * x348003)) then (if (bt356.2.2.1.length:Int) = 1 then (if 0 < (bt356.2.2.1.length:Int) then (if 0≤(wrap64 ((wrap64 (x6 * x348002)) + x5)) then (if (wrap64 ((wrap64 (x6 * x348002)) + x5)) < (bt349.2.2.1.length:Int) then (if (((rd_T38 bt356.2.2.1 0).f0) == ((rd_T38 bt349.2.2.1 (wrap64 ((wrap64 (x6 * x348002)) + x5))).f0)&&(((rd_T38 bt356.2.2.1 0).f1) == ((rd_T38 bt349.2.2.1 (wrap64 ((wrap64 (x6 * x348002)) + x5))).f1)&&(((rd_T38 bt356.2.2.1 0).f2) == ((rd_T38 bt349.2.2.1 (wrap64 ((wrap64 (x6 * x348002)) + x5))).f2)&&(((rd_T38 bt356.2.2.1 0).f3) == ((rd_T38 bt349.2.2.1 (wrap64 ((wrap64 (x6 * x348002)) + x5))).f3))))) = true then ((w18_awake.f k).bind fun t365=>(some t365)) else (none)) else (none)) else (none)) else (none)) else (none)) else (none)) else (none))) else ((w18_awake.f k).bind fun t366=>(some t366))))
def w18_GradientParts.f (k:Nat) (a0:Int) (l1:List Int) (a2:Int) (l3:List (S47)) (a4_0:Int) (a4_1:Int) (a4_2:Int) (a4_3:Int) (a5:Int) (a6:Int):Option (Bool):=if a5 < 0 then (w18_GradientParts.j0 k a0 l1 a2 l3 a5 a6 true a4_0 a4_1 a4_2 a4_3) else (if a5≥a4_2 then (w18_GradientParts.j0 k a0 l1 a2 l3 a5 a6 true a4_0 a4_1 a4_2 a4_3) else (if a6 < 0 then (w18_GradientParts.j0 k a0 l1 a2 l3 a5 a6 true a4_0 a4_1 a4_2 a4_3) else (w18_GradientParts.j0 k a0 l1 a2 l3 a5 a6 (decide (a6≥a4_3)) a4_0 a4_1 a4_2 a4_3)))
theorem w18_GradientParts.mono_l:∀ k,(∀ y0 y1 y2 y3 y4 y5 y6 y7 y8 y9 y10,LeO (w18_GradientParts.j0 k y0 y1 y2 y3 y4 y5 y6 y7 y8 y9 y10) (w18_GradientParts.j0 (k + 1) y0 y1 y2 y3 y4 y5 y6 y7 y8 y9 y10))
 | 0=>fun _ _ _ _ _ _ _ _ _ _ _ r h=>by simp [w18_GradientParts.j0] at h
 | k + 1=>by
  have ih0:=w18_GradientParts.mono_l k
  ·intro y0 y1 y2 y3 y4 y5 y6 y7 y8 y9 y10
   unfold w18_GradientParts.j0
   repeat' first
   | (with_reducible exact ih0 _ _ _ _ _ _ _ _ _ _ _)
   | (with_reducible exact gr_Draw.mono _ _ _ _ _ _ _ _ _)
   | (with_reducible exact w18_awake.mono _)
   | (with_reducible exact LeO.refl _)
   | (with_reducible exact LeO.none _)
   | (with_reducible refine LeO.ite ?_ ?_)
   | (with_reducible refine LeO.bind ?_ (fun _=>?_))
theorem w18_GradientParts.mono:∀ a0 a1 a2 a3 a4 a5 a6 a7 a8 a9 k,LeO (w18_GradientParts.f k a0 a1 a2 a3 a4 a5 a6 a7 a8 a9) (w18_GradientParts.f (k + 1) a0 a1 a2 a3 a4 a5 a6 a7 a8 a9):=by
 intro a0 a1 a2 a3 a4 a5 a6 a7 a8 a9 k;have ih0:=w18_GradientParts.mono_l k
 unfold w18_GradientParts.f
 repeat' first
   | (with_reducible exact ih0 _ _ _ _ _ _ _ _ _ _ _)
   | (with_reducible exact gr_Draw.mono _ _ _ _ _ _ _ _ _)
   | (with_reducible exact w18_awake.mono _)
   | (with_reducible exact LeO.refl _)
   | (with_reducible exact LeO.none _)
   | (with_reducible refine LeO.ite ?_ ?_)
   | (with_reducible refine LeO.bind ?_ (fun _=>?_))
def w18_GradientParts.T7:Bool × List (List Nat × List Nat):=(true,[([],[]),([0],[0]),([1],[1]),([2],[2]),([3,2],[2,3]),([4,2],[2,4]),([2],[2]),([6,2],[2,6]),([2],[2]),([8,2],[2,8]),([7,9,2],[2,7,9]),([5,10,2],[2,5,10]),([2,11],[2,11]),([12,2],[12]),([13],[13]),([14,13],[13,14]),([15,13],[13,15]),([16,13],[13,16]),([13,17],[13,17]),([18,13],[18]),([19],[19]),([20,19],[19,20]),([21,19],[19,21]),([22,19],[19,22]),([19],[19]),([24,19],[19,24]),([19],[19]),([19],[19]),([27,19],[19,27]),([26,28,19],[19,26,28]),([19],[19]),([29,30,19],[19,29,30]),([25,31,19],[19,25,31]),([32,19],[19,32]),([23,33,19],[19,23,33]),([19,34],[19,34]),([35,19],[35]),([36,36],[36]),([36,37],[36,37]),([38,37,0,1,2,3,4,5,6,7,8,9,10,11,12,13,14,15,16,17,18,19,20,21,22,23,24,25,26,27,28,29,30,31,32,33,34,35,36,37,38],[38])])
def w18_GradientParts.B7:List Nat:=[0,1,3,7,15,31,7,71,7,263,967,2047,4095,8191,16383,32767,65535,131071,262143,524287,1048575,2097151,4194303,8388607,1048575,17825791,1048575,1048575,135266303,470810623,1048575,2081423359,4279238655,8574205951,17179869183,34359738367,68719476735,137438953471,274877906943,549755813887]
theorem w18_GradientParts.tab7:rtab .any (opsOf Try.f4 7) = w18_GradientParts.T7:=by kernel_rfl
theorem w18_GradientParts.bits7:waitsOk w18_GradientParts.T7.2 w18_GradientParts.B7 = true:=by kernel_rfl
set_option maxHeartbeats 8000000 in
set_option maxRecDepth 100000 in
theorem w18_GradientParts.calls (k:Nat) (a0:Int) (A1:Option Addr) (c1:Nat) (l1:List Int) (a2:Int) (A3:Option Addr) (c3:Nat) (l3:List (S47)) (a4_0:Int) (a4_1:Int) (a4_2:Int) (a4_3:Int) (a5:Int) (a6:Int) (r:Bool) (w:World) (hr1:Kd.C (Kd.int .i64) w A1 l1.length l1) (hc1:l1.length≤c1) (hr3:Kd.C k47 w A3 l3.length l3) (hc3:l3.length≤c3) (h:w18_GradientParts.f k a0 l1 a2 l3 a4_0 a4_1 a4_2 a4_3 a5 a6 = some r) :
  Calls Try.prog 4 #[.int .i64 a0,.slice A1 l1.length c1,.int .i64 a2,.slice A3 l3.length c3,.agg #[.int .i64 a4_0,.int .i64 a4_1,.int .i64 a4_2,.int .i64 a4_3],.int .i64 a5,.int .i64 a6] w fun e w'=>e = .returned (.bool r)∧Below w.heap.size w w':=by
 have hu31:=Try.underlying31;have hu34:=Try.underlying34;have hu38:=Try.underlying38;have HR1:=Aside0.mk hr1;have HC1:=Aside0.mk hc1;clear hr1 hc1;have HR3:=Aside0.mk hr3;have HC3:=Aside0.mk hc3;clear hr3 hc3;have HB:=Aside0.mk (Below.refl w.heap.size w)
 have H:(if a5 < 0 then (w18_GradientParts.j0 k a0 l1 a2 l3 a5 a6 true a4_0 a4_1 a4_2 a4_3) else (if a5≥a4_2 then (w18_GradientParts.j0 k a0 l1 a2 l3 a5 a6 true a4_0 a4_1 a4_2 a4_3) else (if a6 < 0 then (w18_GradientParts.j0 k a0 l1 a2 l3 a5 a6 true a4_0 a4_1 a4_2 a4_3) else (w18_GradientParts.j0 k a0 l1 a2 l3 a5 a6 (decide (a6≥a4_3)) a4_0 a4_1 a4_2 a4_3)))) = some r:=h
 clear h;have HC8:=Aside0.mk H;clear H
 go_enter Try.func4,Try.ntmps4
 go_upto_region 1 with (first|((with_reducible refine gate_dst (N:=11) rfl ?_);(try (refine gate_grd (by rfl) ?_;dsimp only));refine box_event ?hg (N:=11) ?hd (cs:=#[.int .i64 a4_0,.int .i64 a4_1,.int .i64 a4_2,.int .i64 a4_3]) (t:=31) ?hr ?_;(case hd=>rfl);(case hg=>rfl);(case hr=>first|(go_simp;done)|(go_simp;rfl));intro gb347 hg w9 hbox hb;have n0_:=Aside0.mk (below_step (by repeat first|(with_reducible first|exact HB.out|apply lA_|apply lN_|apply lD_)|exact HB.out) hb);have n1_:=Aside0.mk (hbox);have n2_:=Aside0.mk ((by rw [hg];exact (below_size (by repeat first|(with_reducible first|exact HB.out|apply lA_|apply lN_|apply lD_)|exact HB.out)):w.heap.size≤gb347));have n3_:=Aside0.mk ((by rw [hg];exact (below_size (by repeat first|(with_reducible first|exact HB.out|apply lA_|apply lN_|apply lD_)|exact HB.out)):w.heap.size≤gb347));clear HB;have HB:=n0_;have BK347:=n1_;have GW347:=n2_;have GE347:=n3_;clear n0_ n1_ n2_ n3_;clear hb hbox hg))
 (try simp only [Act.put,tS_,tZ_,tC_])
 go_cut [36] (fun v36 wc=>∃ (kq:Nat) (x36_7:Bool),v36 = .bool x36_7∧Aside0 (w18_GradientParts.j0 kq a0 l1 a2 l3 a5 a6 x36_7 a4_0 a4_1 a4_2 a4_3 = some r)∧Aside0 (kq≤k)∧Aside0 (wc.heap[gb347]? = some (.cells #[.int .i64 a4_0,.int .i64 a4_1,.int .i64 a4_2,.int .i64 a4_3] 31 (0,0)))∧Aside0 (Below w.heap.size w wc))
 case first =>
  have H:=HC8.out;clear HC8;by_cases c10:a5 < 0
  ·rw [if_pos c10] at H
   have c10b0:=decide_eq_true c10;clear c10
   (first|rw [c10b0]|(simp only [i64_w,i32_w];rw [c10b0])|skip)
   have H':=Aside0.mk H;clear H
   go_wp2
   go_meet
   case rel=>exact ⟨_,(true),(by first|rfl|(simp;done)|(simp [*];done)),H',⟨by first|omega|exact Nat.le_refl _⟩,⟨by (with_reducible repeat first|apply bN_|apply bD_|apply bA_);exact BK347.out⟩,⟨by repeat first|(with_reducible first|exact HB.out|apply lA_|apply lN_|apply lD_|refine lS_ ?_ GE347.out)|exact HB.out⟩⟩
  rw [if_neg c10] at H;have c10b0:=decide_eq_false c10;clear c10
  (first|rw [c10b0]|(simp only [i64_w,i32_w];rw [c10b0])|skip)
  by_cases c11:a5≥a4_2
  ·rw [if_pos c11] at H
   have c11b0:=decide_eq_true c11;clear c11;have H':=Aside0.mk H;clear H;have hcz12_0:w9.cell? ⟨gb347,0,none⟩ = some (.int .i64 a4_0):=(blk_cell BK347.out 0).trans rfl;have hcz12_1:w9.cell? ⟨gb347,1,none⟩ = some (.int .i64 a4_1):=(blk_cell BK347.out 1).trans rfl;have hcz12_2:w9.cell? ⟨gb347,2,none⟩ = some (.int .i64 a4_2):=(blk_cell BK347.out 2).trans rfl;have hcz12_3:w9.cell? ⟨gb347,3,none⟩ = some (.int .i64 a4_3):=(blk_cell BK347.out 3).trans rfl;have hfz12_0:=blk_frozen BK347.out 0;have hfz12_1:=blk_frozen BK347.out 1;have hfz12_2:=blk_frozen BK347.out 2;have hfz12_3:=blk_frozen BK347.out 3
   go_wp2
   go_meet
   case rel=>exact ⟨_,(true),(by first|rfl|(simp;done)|(simp [*];done)),H',⟨by first|omega|exact Nat.le_refl _⟩,⟨by (with_reducible repeat first|apply bN_|apply bD_|apply bA_);exact BK347.out⟩,⟨by repeat first|(with_reducible first|exact HB.out|apply lA_|apply lN_|apply lD_|refine lS_ ?_ GE347.out)|exact HB.out⟩⟩
  rw [if_neg c11] at H;have c11b0:=decide_eq_false c11;clear c11;by_cases c13:a6 < 0
  ·rw [if_pos c13] at H
   have c13b0:=decide_eq_true c13;clear c13;have H':=Aside0.mk H;clear H;have hcz14_0:w9.cell? ⟨gb347,0,none⟩ = some (.int .i64 a4_0):=(blk_cell BK347.out 0).trans rfl;have hcz14_1:w9.cell? ⟨gb347,1,none⟩ = some (.int .i64 a4_1):=(blk_cell BK347.out 1).trans rfl;have hcz14_2:w9.cell? ⟨gb347,2,none⟩ = some (.int .i64 a4_2):=(blk_cell BK347.out 2).trans rfl;have hcz14_3:w9.cell? ⟨gb347,3,none⟩ = some (.int .i64 a4_3):=(blk_cell BK347.out 3).trans rfl;have hfz14_0:=blk_frozen BK347.out 0;have hfz14_1:=blk_frozen BK347.out 1;have hfz14_2:=blk_frozen BK347.out 2;have hfz14_3:=blk_frozen BK347.out 3
   go_wp2
   go_meet
   case rel=>exact ⟨_,(true),(by first|rfl|(simp;done)|(simp [*];done)),H',⟨by first|omega|exact Nat.le_refl _⟩,⟨by (with_reducible repeat first|apply bN_|apply bD_|apply bA_);exact BK347.out⟩,⟨by repeat first|(with_reducible first|exact HB.out|apply lA_|apply lN_|apply lD_|refine lS_ ?_ GE347.out)|exact HB.out⟩⟩
  rw [if_neg c13] at H;have c13b0:=decide_eq_false c13;clear c13;have H':=Aside0.mk H;clear H;have hcz15_0:w9.cell? ⟨gb347,0,none⟩ = some (.int .i64 a4_0):=(blk_cell BK347.out 0).trans rfl;have hcz15_1:w9.cell? ⟨gb347,1,none⟩ = some (.int .i64 a4_1):=(blk_cell BK347.out 1).trans rfl;have hcz15_2:w9.cell? ⟨gb347,2,none⟩ = some (.int .i64 a4_2):=(blk_cell BK347.out 2).trans rfl;have hcz15_3:w9.cell? ⟨gb347,3,none⟩ = some (.int .i64 a4_3):=(blk_cell BK347.out 3).trans rfl;have hfz15_0:=blk_frozen BK347.out 0;have hfz15_1:=blk_frozen BK347.out 1;have hfz15_2:=blk_frozen BK347.out 2;have hfz15_3:=blk_frozen BK347.out 3
  go_wp2
  go_meet
  case rel=>exact ⟨_,(decide (a6≥a4_3)),(by first|rfl|(simp;done)|(simp [*];done)),H',⟨by first|omega|exact Nat.le_refl _⟩,⟨by (with_reducible repeat first|apply bN_|apply bD_|apply bA_);exact BK347.out⟩,⟨by repeat first|(with_reducible first|exact HB.out|apply lA_|apply lN_|apply lD_|refine lS_ ?_ GE347.out)|exact HB.out⟩⟩
 case rest =>
  clear HC8;obtain ⟨kq,x36_7,rfl,HA,HJ7,BK347,HB⟩:=hcut
  cases kq with
  | zero=>exact absurd HA.out (by simp [w18_GradientParts.j0])
  | succ kj7 =>
   have H:=HA.out;clear HA;simp only [w18_GradientParts.j0] at H;by_cases c16:x36_7 = true
   ·subst c16
    have H1:((w18_awake.f kj7).bind fun t348=>(some t348)) = some r:=by rw [if_pos rfl] at H;exact H
    clear H;have H:=H1;clear H1;replace H:=Option.bind_eq_some_iff.mp H;obtain ⟨t348,A170,H⟩:=H;replace H:(some t348) = some r:=H;have A17:=Aside0.mk A170;clear A170;obtain rfl:=Option.some.inj H
    go_wp2_with (first|((with_reducible refine gate_callee (f:=13) rfl ?_);refine goesL_ (some 37) rfl rfl Try.func13 (by kernel_rfl) rfl #[] rfl (by (try simp only [mA_,mC_,mN_]);first|done|rfl|(simp only [dL_,kL_];rfl)) ?_;(with_reducible refine (w18_awake.calls kj7  t348 _ A17.out).mono ?_);rintro e w18 ⟨rfl,hb⟩;refine ⟨_,rfl,?_⟩;have n0_:=Aside0.mk (blk_below (by (with_reducible repeat first|apply bN_|apply bD_|apply bA_);exact BK347.out) hb);have n1_:=Aside0.mk (below_step (by repeat first|(with_reducible first|exact HB.out|apply lA_|apply lN_|apply lD_|refine lS_ ?_ GE347.out)|exact HB.out) hb);clear BK347;clear HB;have BK347:=n0_;have HB:=n1_;clear n0_ n1_;(try clear hb);(try clear hb2);(try clear hk);(try clear hi)))
    go_ret
    exact ⟨by first|rfl|(simp [errW_none,errW_some] <;> rfl)|(simp [*,errW_none,errW_some] <;> rfl),by repeat first|(with_reducible first|exact HB.out|apply lA_|apply lN_|apply lD_|refine lS_ ?_ GE347.out)|exact HB.out⟩
   replace c16:=Bool.eq_false_iff.mpr c16;subst c16
   have H1:((gr_Draw.f kj7 a0 l1 a2 l3 a4_0 a4_1 a4_2 a4_3).bind fun bt349=>(if bt349.2.2.2 = 0 then ((gr_Draw.f kj7 a0 l1 a2 l3 (wrap64 (a4_0 + a5)) (wrap64 (a4_1 + a6)) 1 1).bind fun bt356=>(if bt356.2.2.2 = 0 then (if (bt349.2.2.1.length:Int) = (wrap64 (a4_2 * a4_3)) then (if (bt356.2.2.1.length:Int) = 1 then (if 0 < (bt356.2.2.1.length:Int) then (if 0≤(wrap64 ((wrap64 (a6 * a4_2)) + a5)) then (if (wrap64 ((wrap64 (a6 * a4_2)) + a5)) < (bt349.2.2.1.length:Int) then (if (((rd_T38 bt356.2.2.1 0).f0) == ((rd_T38 bt349.2.2.1 (wrap64 ((wrap64 (a6 * a4_2)) + a5))).f0)&&(((rd_T38 bt356.2.2.1 0).f1) == ((rd_T38 bt349.2.2.1 (wrap64 ((wrap64 (a6 * a4_2)) + a5))).f1)&&(((rd_T38 bt356.2.2.1 0).f2) == ((rd_T38 bt349.2.2.1 (wrap64 ((wrap64 (a6 * a4_2)) + a5))).f2)&&(((rd_T38 bt356.2.2.1 0).f3) == ((rd_T38 bt349.2.2.1 (wrap64 ((wrap64 (a6 * a4_2)) + a5))).f3))))) = true then ((w18_awake.f kj7).bind fun t365=>(some t365)) else (none)) else (none)) else (none)) else (none)) else (none)) else (none)) else (none))) else ((w18_awake.f kj7).bind fun t366=>(some t366)))) = some r:=by rw [if_neg (show ¬ (false = true) by decide)] at H;exact H
   clear H;have H:=H1;clear H1;replace H:=Option.bind_eq_some_iff.mp H;obtain ⟨⟨t349,t350,t351,t354⟩,A190,H⟩:=H
   replace H:(if t354 = 0 then ((gr_Draw.f kj7 a0 l1 a2 l3 (wrap64 (a4_0 + a5)) (wrap64 (a4_1 + a6)) 1 1).bind fun bt356=>(if bt356.2.2.2 = 0 then (if (t351.length:Int) = (wrap64 (a4_2 * a4_3)) then (if (bt356.2.2.1.length:Int) = 1 then (if 0 < (bt356.2.2.1.length:Int) then (if 0≤(wrap64 ((wrap64 (a6 * a4_2)) + a5)) then (if (wrap64 ((wrap64 (a6 * a4_2)) + a5)) < (t351.length:Int) then (if (((rd_T38 bt356.2.2.1 0).f0) == ((rd_T38 t351 (wrap64 ((wrap64 (a6 * a4_2)) + a5))).f0)&&(((rd_T38 bt356.2.2.1 0).f1) == ((rd_T38 t351 (wrap64 ((wrap64 (a6 * a4_2)) + a5))).f1)&&(((rd_T38 bt356.2.2.1 0).f2) == ((rd_T38 t351 (wrap64 ((wrap64 (a6 * a4_2)) + a5))).f2)&&(((rd_T38 bt356.2.2.1 0).f3) == ((rd_T38 t351 (wrap64 ((wrap64 (a6 * a4_2)) + a5))).f3))))) = true then ((w18_awake.f kj7).bind fun t365=>(some t365)) else (none)) else (none)) else (none)) else (none)) else (none)) else (none)) else (none))) else ((w18_awake.f kj7).bind fun t366=>(some t366))) = some r:=H
   have A19:=Aside0.mk A190;clear A190;by_cases c20:t354 = 0
   ·rw [if_pos c20] at H
    have c20b0:=beq_iff_eq.mpr c20;have c20b1:=bne_eq_false_iff_eq.mpr c20;clear c20;replace H:=Option.bind_eq_some_iff.mp H;obtain ⟨⟨t356,t357,t358,t361⟩,A210,H⟩:=H
    replace H:(if t361 = 0 then (if (t351.length:Int) = (wrap64 (a4_2 * a4_3)) then (if (t358.length:Int) = 1 then (if 0 < (t358.length:Int) then (if 0≤(wrap64 ((wrap64 (a6 * a4_2)) + a5)) then (if (wrap64 ((wrap64 (a6 * a4_2)) + a5)) < (t351.length:Int) then (if (((rd_T38 t358 0).f0) == ((rd_T38 t351 (wrap64 ((wrap64 (a6 * a4_2)) + a5))).f0)&&(((rd_T38 t358 0).f1) == ((rd_T38 t351 (wrap64 ((wrap64 (a6 * a4_2)) + a5))).f1)&&(((rd_T38 t358 0).f2) == ((rd_T38 t351 (wrap64 ((wrap64 (a6 * a4_2)) + a5))).f2)&&(((rd_T38 t358 0).f3) == ((rd_T38 t351 (wrap64 ((wrap64 (a6 * a4_2)) + a5))).f3))))) = true then ((w18_awake.f kj7).bind fun t365=>(some t365)) else (none)) else (none)) else (none)) else (none)) else (none)) else (none)) else (none)) = some r:=H
    have A21:=Aside0.mk A210;clear A210;by_cases c22:t361 = 0
    ·rw [if_pos c22] at H
     have c22b0:=beq_iff_eq.mpr c22;have c22b1:=bne_eq_false_iff_eq.mpr c22;clear c22;by_cases c23:(t351.length:Int) = (wrap64 (a4_2 * a4_3))
     ·rw [if_pos c23] at H
      have c23b0:=beq_iff_eq.mpr c23;have c23b1:=bne_eq_false_iff_eq.mpr c23;clear c23;by_cases c24:(t358.length:Int) = 1
      ·rw [if_pos c24] at H
       have c24b0:=beq_iff_eq.mpr c24;have c24b1:=bne_eq_false_iff_eq.mpr c24;clear c24;by_cases c25:0 < (t358.length:Int)
       ·rw [if_pos c25] at H
        have c25b0:=decide_eq_true c25
        have c25b1:decide (0 < t358.length) = true:=decide_eq_true (by omega)
        clear c25;obtain ⟨ji26,hji26⟩:∃ j_:Int,(wrap64 ((wrap64 (a6 * a4_2)) + a5)) = j_:=⟨_,rfl⟩
        replace H:(if 0≤(ji26) then (if (ji26) < (t351.length:Int) then (if (((rd_T38 t358 0).f0) == ((rd_T38 t351 (ji26)).f0)&&(((rd_T38 t358 0).f1) == ((rd_T38 t351 (ji26)).f1)&&(((rd_T38 t358 0).f2) == ((rd_T38 t351 (ji26)).f2)&&(((rd_T38 t358 0).f3) == ((rd_T38 t351 (ji26)).f3))))) = true then ((w18_awake.f kj7).bind fun t365=>(some t365)) else (none)) else (none)) else (none)) = some r:=by first|(rw [hji26] at H;exact H)|(simp only [hji26] at H ⊢;exact H)
        (try rw [hji26] at A19)
        (try rw [hji26] at A21)
        have hji26w:(IntKind.i64.wrap ((wrap64 (a6 * a4_2)) + a5)) = ji26:=(i64_w _).trans hji26;by_cases c27:0≤(ji26)
        ·rw [if_pos c27] at H
         have c27b0:=decide_eq_true c27;clear c27;by_cases c28:(ji26) < (t351.length:Int)
         ·rw [if_pos c28] at H
          have c28b0:=decide_eq_true c28;clear c28;by_cases c29:(((rd_T38 t358 0).f0) == ((rd_T38 t351 (ji26)).f0)&&(((rd_T38 t358 0).f1) == ((rd_T38 t351 (ji26)).f1)&&(((rd_T38 t358 0).f2) == ((rd_T38 t351 (ji26)).f2)&&(((rd_T38 t358 0).f3) == ((rd_T38 t351 (ji26)).f3))))) = true
          ·rw [if_pos c29] at H
           have c29b0:(((rd_T38 t358 0).f0) == ((rd_T38 t351 (ji26)).f0)&&(((rd_T38 t358 0).f1) == ((rd_T38 t351 (ji26)).f1)&&(((rd_T38 t358 0).f2) == ((rd_T38 t351 (ji26)).f2)&&(((rd_T38 t358 0).f3) == ((rd_T38 t351 (ji26)).f3))))) = true:=c29
           (try (have c29b1:decide (((rd_T38 t358 0).f0) = ((rd_T38 t351 (ji26)).f0)&&(((rd_T38 t358 0).f1) == ((rd_T38 t351 (ji26)).f1)&&(((rd_T38 t358 0).f2) == ((rd_T38 t351 (ji26)).f2)&&(((rd_T38 t358 0).f3) == ((rd_T38 t351 (ji26)).f3))))) = true:=by simpa using c29))
           (try (have c29b2:(((rd_T38 t358 0).f0) == ((rd_T38 t351 (ji26)).f0)&&(((rd_T38 t358 0).f1) == ((rd_T38 t351 (ji26)).f1)&&(((rd_T38 t358 0).f2) == ((rd_T38 t351 (ji26)).f2)&&(((rd_T38 t358 0).f3) == ((rd_T38 t351 (ji26)).f3))))) = true:=by simpa using c29))
           clear c29;replace H:=Option.bind_eq_some_iff.mp H;obtain ⟨t365,A300,H⟩:=H;replace H:(some t365) = some r:=H;have A30:=Aside0.mk A300;clear A300;obtain rfl:=Option.some.inj H;have hcz31_0:wc.cell? ⟨gb347,0,none⟩ = some (.int .i64 a4_0):=(blk_cell BK347.out 0).trans rfl;have hcz31_1:wc.cell? ⟨gb347,1,none⟩ = some (.int .i64 a4_1):=(blk_cell BK347.out 1).trans rfl;have hcz31_2:wc.cell? ⟨gb347,2,none⟩ = some (.int .i64 a4_2):=(blk_cell BK347.out 2).trans rfl;have hcz31_3:wc.cell? ⟨gb347,3,none⟩ = some (.int .i64 a4_3):=(blk_cell BK347.out 3).trans rfl;have hfz31_0:=blk_frozen BK347.out 0;have hfz31_1:=blk_frozen BK347.out 1;have hfz31_2:=blk_frozen BK347.out 2;have hfz31_3:=blk_frozen BK347.out 3
           try go_wp2_with (first|((with_reducible refine gate_callee (f:=15) rfl ?_);refine goesL_ (some 44) rfl rfl Try.func15 (by kernel_rfl) rfl #[.int .i64 a0,.slice A1 l1.length c1,.int .i64 a2,.slice A3 l3.length c3,.agg #[.int .i64 a4_0,.int .i64 a4_1,.int .i64 a4_2,.int .i64 a4_3]] rfl (by (try simp only [mA_,mC_,mN_]);first|done|rfl|(simp only [dL_,kL_];rfl)) ?_;(with_reducible refine (gr_Draw.calls kj7 a0 _ _ l1 a2 _ _ l3 a4_0 a4_1 a4_2 a4_3 t349 t350 t351 t354 _ ?side1 ?side2 ?side3 ?side4 A19.out).mono ?_);(case side1=>repeat (first|exact (Kd.C_below HR1.out HB.out)|(with_reducible refine Kd.C_alloc ?_ _)|(with_reducible refine Kd.C_drewN ?_ _)|(with_reducible refine Kd.C_drew ?_)));(case side2=>exact HC1.out);(case side3=>repeat (first|exact (Kd.C_below HR3.out HB.out)|(with_reducible refine Kd.C_alloc ?_ _)|(with_reducible refine Kd.C_drewN ?_ _)|(with_reducible refine Kd.C_drew ?_)));(case side4=>exact HC3.out);rintro e w32 ⟨v352,rfl,ho0,hb⟩;refine ⟨_,rfl,?_⟩;have n0_:=Aside0.mk (Kd.R_lower ho0 (below_size (by repeat first|(with_reducible first|exact HB.out|apply lA_|apply lN_|apply lD_|refine lS_ ?_ GE347.out)|exact HB.out)));have n1_:=Aside0.mk (blk_below (by (with_reducible repeat first|apply bN_|apply bD_|apply bA_);exact BK347.out) hb);have n2_:=Aside0.mk (below_step (by repeat first|(with_reducible first|exact HB.out|apply lA_|apply lN_|apply lD_|refine lS_ ?_ GE347.out)|exact HB.out) hb);clear BK347;clear HB;have HO353:=n0_;have BK347:=n1_;have HB:=n2_;clear n0_ n1_ n2_;(try clear hb);(try clear hb2);(try clear hk);(try clear hi);(try clear ho0))|((with_reducible refine gate_dst (N:=15) rfl ?_);(try (refine gate_grd (by rfl) ?_;dsimp only));refine box_event ?hg (N:=15) ?hd (cs:=#[.int .i64 0,.int .i64 0,.slice none 0 0]) (t:=34) ?hr ?_;(case hd=>rfl);(case hg=>rfl);(case hr=>first|(go_simp;done)|(go_simp;rfl));intro gb355 hg w33 hbox hb;have n0_:=Aside0.mk (Kd.R_below (by (with_reducible repeat (first|apply Kd.R_alloc|apply Kd.R_drewN|apply Kd.R_drew));exact HO353.out) hb);have n1_:=Aside0.mk (blk_below (by (with_reducible repeat first|apply bN_|apply bD_|apply bA_);exact BK347.out) hb);have n2_:=Aside0.mk (below_step (by repeat first|(with_reducible first|exact HB.out|apply lA_|apply lN_|apply lD_|refine lS_ ?_ GE347.out)|exact HB.out) hb);have n3_:=Aside0.mk (hbox);have n4_:=Aside0.mk ((by rw [hg];exact (below_size (by repeat first|(with_reducible first|exact HB.out|apply lA_|apply lN_|apply lD_|refine lS_ ?_ GE347.out)|exact HB.out)):w.heap.size≤gb355));have n5_:=Aside0.mk ((by rw [hg];exact (below_size (by repeat first|(with_reducible first|exact HB.out|apply lA_|apply lN_|apply lD_|refine lS_ ?_ GE347.out)|exact HB.out)):w.heap.size≤gb355));have n6_:=Aside0.mk ((by rw [hg];exact Nat.ne_of_lt (blk_lt (g:=gb347) (o:=.cells #[.int .i64 a4_0,.int .i64 a4_1,.int .i64 a4_2,.int .i64 a4_3] 31 (0,0)) (by (with_reducible repeat first|apply bN_|apply bD_|apply bA_);exact BK347.out)):gb347 ≠ gb355));have n7_:=Aside0.mk ((by rw [hg];exact Nat.ne_of_gt (blk_lt (g:=gb347) (o:=.cells #[.int .i64 a4_0,.int .i64 a4_1,.int .i64 a4_2,.int .i64 a4_3] 31 (0,0)) (by (with_reducible repeat first|apply bN_|apply bD_|apply bA_);exact BK347.out)):gb355 ≠ gb347));clear HO353;clear BK347;clear HB;have HO353:=n0_;have BK347:=n1_;have HB:=n2_;have BK355:=n3_;have GW355:=n4_;have GE355:=n5_;have NB347_355:=n6_;have NB355_347:=n7_;clear n0_ n1_ n2_ n3_ n4_ n5_ n6_ n7_;clear hb hbox hg;have hnb34:=NB355_347.out;have hnc34:=NB347_355.out;have hcz35_0:w33.cell? ⟨gb355,0,none⟩ = some (.int .i64 0):=(blk_cell BK355.out 0).trans rfl;have hcz35_1:w33.cell? ⟨gb355,1,none⟩ = some (.int .i64 0):=(blk_cell BK355.out 1).trans rfl;have hcz35_2:w33.cell? ⟨gb355,2,none⟩ = some (.slice none 0 0):=(blk_cell BK355.out 2).trans rfl;have hfz35_0:=blk_frozen BK355.out 0;have hfz35_1:=blk_frozen BK355.out 1;have hfz35_2:=blk_frozen BK355.out 2;obtain ⟨Ao36,co36,eo36⟩:=Kd.R_slice HO353.out;subst eo36;have hcz37_0:w33.cell? ⟨gb347,0,none⟩ = some (.int .i64 a4_0):=(blk_cell BK347.out 0).trans rfl;have hcz37_1:w33.cell? ⟨gb347,1,none⟩ = some (.int .i64 a4_1):=(blk_cell BK347.out 1).trans rfl;have hcz37_2:w33.cell? ⟨gb347,2,none⟩ = some (.int .i64 a4_2):=(blk_cell BK347.out 2).trans rfl;have hcz37_3:w33.cell? ⟨gb347,3,none⟩ = some (.int .i64 a4_3):=(blk_cell BK347.out 3).trans rfl;have hfz37_0:=blk_frozen BK347.out 0;have hfz37_1:=blk_frozen BK347.out 1;have hfz37_2:=blk_frozen BK347.out 2;have hfz37_3:=blk_frozen BK347.out 3)|((with_reducible refine gate_callee (f:=15) rfl ?_);refine goesL_ (some 64) rfl rfl Try.func15 (by kernel_rfl) rfl #[.int .i64 a0,.slice A1 l1.length c1,.int .i64 a2,.slice A3 l3.length c3,.agg #[.int .i64 (wrap64 (a4_0 + a5)),.int .i64 (wrap64 (a4_1 + a6)),.int .i64 1,.int .i64 1]] rfl (by (try simp only [mA_,mC_,mN_]);first|done|rfl|(simp only [dL_,kL_];rfl)) ?_;(with_reducible refine (gr_Draw.calls kj7 a0 _ _ l1 a2 _ _ l3 (wrap64 (a4_0 + a5)) (wrap64 (a4_1 + a6)) 1 1 t356 t357 t358 t361 _ ?side1 ?side2 ?side3 ?side4 A21.out).mono ?_);(case side1=>exact Kd.C_below HR1.out (by repeat first|(with_reducible first|exact HB.out|apply lA_|apply lN_|apply lD_|refine lS_ ?_ GE347.out|refine lS_ ?_ GE355.out)|exact HB.out));(case side2=>exact HC1.out);(case side3=>exact Kd.C_below HR3.out (by repeat first|(with_reducible first|exact HB.out|apply lA_|apply lN_|apply lD_|refine lS_ ?_ GE347.out|refine lS_ ?_ GE355.out)|exact HB.out));(case side4=>exact HC3.out);rintro e w38 ⟨v359,rfl,ho0,hb⟩;refine ⟨_,rfl,?_⟩;have n0_:=Aside0.mk (Kd.R_elder' (by (with_reducible repeat (first|apply Kd.R_alloc|apply Kd.R_drewN|apply Kd.R_drew));exact (Kd.R_mono (Kd.R_far (p:=⟨gb355,2,none⟩) (Kd.R_far (p:=⟨gb355,1,none⟩) (Kd.R_far (p:=⟨gb355,0,none⟩) (Kd.R_types HO353.out BK355.out (by decide)) (fun _ hk=>hk.2) (.int .i64 t349)) (fun _ hk=>hk.2) (.int .i64 t350)) (fun _ hk=>hk.2) (.slice Ao36 t351.length co36)) (fun _ h_=>h_.1))) (Kd.R_base ho0) hb);have n1_:=Aside0.mk (Kd.R_lower (Kd.R_new' ho0 (Kd.R_lt (by (with_reducible repeat (first|apply Kd.R_alloc|apply Kd.R_drewN|apply Kd.R_drew));exact (Kd.R_mono (Kd.R_far (p:=⟨gb355,2,none⟩) (Kd.R_far (p:=⟨gb355,1,none⟩) (Kd.R_far (p:=⟨gb355,0,none⟩) (Kd.R_types HO353.out BK355.out (by decide)) (fun _ hk=>hk.2) (.int .i64 t349)) (fun _ hk=>hk.2) (.int .i64 t350)) (fun _ hk=>hk.2) (.slice Ao36 t351.length co36)) (fun _ h_=>h_.1))))) (below_size (by repeat first|(with_reducible first|exact HB.out|apply lA_|apply lN_|apply lD_|refine lS_ ?_ GE347.out|refine lS_ ?_ GE355.out)|exact HB.out)));have n2_:=Aside0.mk (blk_below (g:=gb347) (o:=.cells #[.int .i64 a4_0,.int .i64 a4_1,.int .i64 a4_2,.int .i64 a4_3] 31 (0,0)) (by (with_reducible repeat first|apply bN_|apply bD_|apply bA_);refine blk_far ?_ NB347_355.out _;(with_reducible repeat first|apply bN_|apply bD_|apply bA_);refine blk_far ?_ NB347_355.out _;(with_reducible repeat first|apply bN_|apply bD_|apply bA_);refine blk_far ?_ NB347_355.out _;(with_reducible repeat first|apply bN_|apply bD_|apply bA_);exact BK347.out) hb);have n3_:=Aside0.mk (blk_below (g:=gb355) (o:=.cells #[.int .i64 t349,.int .i64 t350,.slice Ao36 t351.length co36] 34 (0,0)) (by (with_reducible repeat first|apply bN_|apply bD_|apply bA_);refine blk_put (cs:=#[.int .i64 t349,.int .i64 t350,.slice none 0 0]) ?_ 2 _ rfl;(with_reducible repeat first|apply bN_|apply bD_|apply bA_);refine blk_put (cs:=#[.int .i64 t349,.int .i64 0,.slice none 0 0]) ?_ 1 _ rfl;(with_reducible repeat first|apply bN_|apply bD_|apply bA_);refine blk_put (cs:=#[.int .i64 0,.int .i64 0,.slice none 0 0]) ?_ 0 _ rfl;(with_reducible repeat first|apply bN_|apply bD_|apply bA_);exact BK355.out) hb);have n4_:=Aside0.mk (below_step (by repeat first|(with_reducible first|exact HB.out|apply lA_|apply lN_|apply lD_|refine lS_ ?_ GE347.out|refine lS_ ?_ GE355.out)|exact HB.out) hb);clear HO353;clear BK347;clear BK355;clear HB;have HO353:=n0_;have HO360:=n1_;have BK347:=n2_;have BK355:=n3_;have HB:=n4_;clear n0_ n1_ n2_ n3_ n4_;(try clear hb);(try clear hb2);(try clear hk);(try clear hi);(try clear ho0))|((with_reducible refine gate_dst (N:=17) rfl ?_);(try (refine gate_grd (by rfl) ?_;dsimp only));refine box_event ?hg (N:=17) ?hd (cs:=#[.int .i64 0,.int .i64 0,.slice none 0 0]) (t:=34) ?hr ?_;(case hd=>rfl);(case hg=>rfl);(case hr=>first|(go_simp;done)|(go_simp;rfl));intro gb362 hg w39 hbox hb;have n0_:=Aside0.mk (Kd.R_below (by (with_reducible repeat (first|apply Kd.R_alloc|apply Kd.R_drewN|apply Kd.R_drew));exact HO353.out) hb);have n1_:=Aside0.mk (Kd.R_below (by (with_reducible repeat (first|apply Kd.R_alloc|apply Kd.R_drewN|apply Kd.R_drew));exact HO360.out) hb);have n2_:=Aside0.mk (blk_below (by (with_reducible repeat first|apply bN_|apply bD_|apply bA_);exact BK347.out) hb);have n3_:=Aside0.mk (blk_below (by (with_reducible repeat first|apply bN_|apply bD_|apply bA_);exact BK355.out) hb);have n4_:=Aside0.mk (below_step (by repeat first|(with_reducible first|exact HB.out|apply lA_|apply lN_|apply lD_|refine lS_ ?_ GE347.out|refine lS_ ?_ GE355.out)|exact HB.out) hb);have n5_:=Aside0.mk (hbox);have n6_:=Aside0.mk ((by rw [hg];exact (below_size (by repeat first|(with_reducible first|exact HB.out|apply lA_|apply lN_|apply lD_|refine lS_ ?_ GE347.out|refine lS_ ?_ GE355.out)|exact HB.out)):w.heap.size≤gb362));have n7_:=Aside0.mk ((by rw [hg];exact (below_size (by repeat first|(with_reducible first|exact HB.out|apply lA_|apply lN_|apply lD_|refine lS_ ?_ GE347.out|refine lS_ ?_ GE355.out)|exact HB.out)):w.heap.size≤gb362));have n8_:=Aside0.mk ((by rw [hg];exact Nat.ne_of_lt (blk_lt (g:=gb347) (o:=.cells #[.int .i64 a4_0,.int .i64 a4_1,.int .i64 a4_2,.int .i64 a4_3] 31 (0,0)) (by (with_reducible repeat first|apply bN_|apply bD_|apply bA_);exact BK347.out)):gb347 ≠ gb362));have n9_:=Aside0.mk ((by rw [hg];exact Nat.ne_of_gt (blk_lt (g:=gb347) (o:=.cells #[.int .i64 a4_0,.int .i64 a4_1,.int .i64 a4_2,.int .i64 a4_3] 31 (0,0)) (by (with_reducible repeat first|apply bN_|apply bD_|apply bA_);exact BK347.out)):gb362 ≠ gb347));have n10_:=Aside0.mk ((by rw [hg];exact Nat.ne_of_lt (blk_lt (g:=gb355) (o:=.cells #[.int .i64 t349,.int .i64 t350,.slice Ao36 t351.length co36] 34 (0,0)) (by (with_reducible repeat first|apply bN_|apply bD_|apply bA_);exact BK355.out)):gb355 ≠ gb362));have n11_:=Aside0.mk ((by rw [hg];exact Nat.ne_of_gt (blk_lt (g:=gb355) (o:=.cells #[.int .i64 t349,.int .i64 t350,.slice Ao36 t351.length co36] 34 (0,0)) (by (with_reducible repeat first|apply bN_|apply bD_|apply bA_);exact BK355.out)):gb362 ≠ gb355));clear HO353;clear HO360;clear BK347;clear BK355;clear HB;have HO353:=n0_;have HO360:=n1_;have BK347:=n2_;have BK355:=n3_;have HB:=n4_;have BK362:=n5_;have GW362:=n6_;have GE362:=n7_;have NB347_362:=n8_;have NB362_347:=n9_;have NB355_362:=n10_;have NB362_355:=n11_;clear n0_ n1_ n2_ n3_ n4_ n5_ n6_ n7_ n8_ n9_ n10_ n11_;clear hb hbox hg;have hnb40:=NB362_347.out;have hnc40:=NB347_362.out;have hnb41:=NB362_355.out;have hnc41:=NB355_362.out;have hcz42_0:w39.cell? ⟨gb362,0,none⟩ = some (.int .i64 0):=(blk_cell BK362.out 0).trans rfl;have hcz42_1:w39.cell? ⟨gb362,1,none⟩ = some (.int .i64 0):=(blk_cell BK362.out 1).trans rfl;have hcz42_2:w39.cell? ⟨gb362,2,none⟩ = some (.slice none 0 0):=(blk_cell BK362.out 2).trans rfl;have hfz42_0:=blk_frozen BK362.out 0;have hfz42_1:=blk_frozen BK362.out 1;have hfz42_2:=blk_frozen BK362.out 2;obtain ⟨Ao43,co43,eo43⟩:=Kd.R_slice HO360.out;subst eo43))
           have n0_:Aside0 (Kd.R k38 38 (((w39.setCell ⟨gb362,0,none⟩ (.int .i64 t356)).setCell ⟨gb362,1,none⟩ (.int .i64 t357)).setCell ⟨gb362,2,none⟩ (.slice Ao43 t358.length co43)) w.heap.size (fun k_=>some k_ ≠ (.slice Ao43 t358.length co43:Value).ownBlock) (.slice Ao36 t351.length co36) t351):=⟨by (with_reducible repeat (first|apply Kd.R_alloc|apply Kd.R_drewN|apply Kd.R_drew));exact Kd.R_mono (Kd.R_far (p:=⟨gb362,2,none⟩) (Kd.R_far (p:=⟨gb362,1,none⟩) (Kd.R_far (p:=⟨gb362,0,none⟩) (Kd.R_types HO353.out BK362.out (by decide)) (fun _ hk=>hk.2) (.int .i64 t356)) (fun _ hk=>hk.2) (.int .i64 t357)) (fun _ hk=>hk.2) (.slice Ao43 t358.length co43)) (fun _ hk=>hk.1.2)⟩
           have n1_:Aside0 (Kd.R k38 38 (((w39.setCell ⟨gb362,0,none⟩ (.int .i64 t356)).setCell ⟨gb362,1,none⟩ (.int .i64 t357)).setCell ⟨gb362,2,none⟩ (.slice Ao43 t358.length co43)) w.heap.size (fun k_=>some k_ ≠ (.slice Ao36 t351.length co36:Value).ownBlock) (.slice Ao43 t358.length co43) t358):=⟨by (with_reducible repeat (first|apply Kd.R_alloc|apply Kd.R_drewN|apply Kd.R_drew));exact Kd.R_mono (Kd.R_far (p:=⟨gb362,2,none⟩) (Kd.R_far (p:=⟨gb362,1,none⟩) (Kd.R_far (p:=⟨gb362,0,none⟩) (Kd.R_types HO360.out BK362.out (by decide)) (fun _ hk=>hk.2) (.int .i64 t356)) (fun _ hk=>hk.2) (.int .i64 t357)) (fun _ hk=>hk.2) (.slice Ao43 t358.length co43)) (fun _ hk=>hk.1.2)⟩
           have n2_:Aside0 ((((w39.setCell ⟨gb362,0,none⟩ (.int .i64 t356)).setCell ⟨gb362,1,none⟩ (.int .i64 t357)).setCell ⟨gb362,2,none⟩ (.slice Ao43 t358.length co43)).heap[gb347]? = some (.cells #[.int .i64 a4_0,.int .i64 a4_1,.int .i64 a4_2,.int .i64 a4_3] 31 (0,0))):=⟨by (with_reducible repeat first|apply bN_|apply bD_|apply bA_);refine blk_far ?_ NB347_362.out _;(with_reducible repeat first|apply bN_|apply bD_|apply bA_);refine blk_far ?_ NB347_362.out _;(with_reducible repeat first|apply bN_|apply bD_|apply bA_);refine blk_far ?_ NB347_362.out _;(with_reducible repeat first|apply bN_|apply bD_|apply bA_);exact BK347.out⟩
           have n3_:Aside0 ((((w39.setCell ⟨gb362,0,none⟩ (.int .i64 t356)).setCell ⟨gb362,1,none⟩ (.int .i64 t357)).setCell ⟨gb362,2,none⟩ (.slice Ao43 t358.length co43)).heap[gb355]? = some (.cells #[.int .i64 t349,.int .i64 t350,.slice Ao36 t351.length co36] 34 (0,0))):=⟨by (with_reducible repeat first|apply bN_|apply bD_|apply bA_);refine blk_far ?_ NB355_362.out _;(with_reducible repeat first|apply bN_|apply bD_|apply bA_);refine blk_far ?_ NB355_362.out _;(with_reducible repeat first|apply bN_|apply bD_|apply bA_);refine blk_far ?_ NB355_362.out _;(with_reducible repeat first|apply bN_|apply bD_|apply bA_);exact BK355.out⟩
           have n4_:Aside0 ((((w39.setCell ⟨gb362,0,none⟩ (.int .i64 t356)).setCell ⟨gb362,1,none⟩ (.int .i64 t357)).setCell ⟨gb362,2,none⟩ (.slice Ao43 t358.length co43)).heap[gb362]? = some (.cells #[.int .i64 t356,.int .i64 t357,.slice Ao43 t358.length co43] 34 (0,0))):=⟨by (with_reducible repeat first|apply bN_|apply bD_|apply bA_);refine blk_put (cs:=#[.int .i64 t356,.int .i64 t357,.slice none 0 0]) ?_ 2 _ rfl;(with_reducible repeat first|apply bN_|apply bD_|apply bA_);refine blk_put (cs:=#[.int .i64 t356,.int .i64 0,.slice none 0 0]) ?_ 1 _ rfl;(with_reducible repeat first|apply bN_|apply bD_|apply bA_);refine blk_put (cs:=#[.int .i64 0,.int .i64 0,.slice none 0 0]) ?_ 0 _ rfl;(with_reducible repeat first|apply bN_|apply bD_|apply bA_);exact BK362.out⟩
           have n5_:Aside0 (Below w.heap.size w (((w39.setCell ⟨gb362,0,none⟩ (.int .i64 t356)).setCell ⟨gb362,1,none⟩ (.int .i64 t357)).setCell ⟨gb362,2,none⟩ (.slice Ao43 t358.length co43))):=⟨by repeat first|(with_reducible first|exact HB.out|apply lA_|apply lN_|apply lD_|refine lS_ ?_ GE347.out|refine lS_ ?_ GE355.out|refine lS_ ?_ GE362.out)|exact HB.out⟩
           (try clear HO353)
           (try clear HO360)
           (try clear BK347)
           (try clear BK355)
           (try clear BK362)
           (try clear HB)
           generalize (((w39.setCell ⟨gb362,0,none⟩ (.int .i64 t356)).setCell ⟨gb362,1,none⟩ (.int .i64 t357)).setCell ⟨gb362,2,none⟩ (.slice Ao43 t358.length co43)) = w44 at n0_ n1_ n2_ n3_ n4_ n5_ ⊢
           have HO353:=n0_;have HO360:=n1_;have BK347:=n2_;have BK355:=n3_;have BK362:=n4_;have HB:=n5_;clear n0_ n1_ n2_ n3_ n4_ n5_;have n0_:=Aside0.mk (Kd.R_drew HO353.out);have n1_:=Aside0.mk (Kd.R_drew HO360.out);have n2_:=Aside0.mk (blk_drew BK347.out);have n3_:=Aside0.mk (blk_drew BK355.out);have n4_:=Aside0.mk (blk_drew BK362.out);have n5_:=Aside0.mk (below_drew1 HB.out);clear HO353;clear HO360;clear BK347;clear BK355;clear BK362;clear HB;have HO353:=n0_;have HO360:=n1_;have BK347:=n2_;have BK355:=n3_;have BK362:=n4_;have HB:=n5_;clear n0_ n1_ n2_ n3_ n4_ n5_
           have p363:0≤(0:Int):=(by omega)
           have q363:0 < (t358.length:Int):=of_decide_eq_true (by first|(with_reducible assumption)|assumption)
           obtain ⟨ad363,e363,hx363_0,hx363_1,hx363_2,hx363_3⟩:=at_T38 (Kd.R_reads' HO360.out).2.2 0 p363 q363;cases e363
           have qi363:(0 < t358.length) = True:=eq_true (by omega)
           (try rw [show ((0:Int)).toNat = 0 from rfl] at hx363_0)
           (try rw [show 0 * 4 = 0 from rfl] at hx363_0)
           (try rw [Addr.add_zero'] at hx363_0)
           (try rw [show ((0:Int)).toNat = 0 from rfl] at hx363_1)
           (try rw [show 0 * 4 = 0 from rfl] at hx363_1)
           (try rw [Addr.add_zero'] at hx363_1)
           (try rw [show ((0:Int)).toNat = 0 from rfl] at hx363_2)
           (try rw [show 0 * 4 = 0 from rfl] at hx363_2)
           (try rw [Addr.add_zero'] at hx363_2)
           (try rw [show ((0:Int)).toNat = 0 from rfl] at hx363_3)
           (try rw [show 0 * 4 = 0 from rfl] at hx363_3)
           (try rw [Addr.add_zero'] at hx363_3)
           replace p363:=eq_true p363;replace q363:=eq_true q363
           have p364:0≤((ji26):Int):=of_decide_eq_true (by first|(with_reducible assumption)|assumption)
           have q364:(ji26) < (t351.length:Int):=of_decide_eq_true (by first|(with_reducible assumption)|assumption)
           obtain ⟨ad364,e364,hx364_0,hx364_1,hx364_2,hx364_3⟩:=at_T38 (Kd.R_reads' HO353.out).2.2 (ji26) p364 q364;cases e364;replace p364:=eq_true p364;replace q364:=eq_true q364
           refine start_ (n:=40) (S:=fun w'=>w'.cell? ⟨gb355,0,none⟩ = some (.int .i64 t349)∧w'.cell? ⟨gb355,1,none⟩ = some (.int .i64 t350)∧w'.cell? ⟨gb355,2,none⟩ = some (.slice (some ad364) t351.length co36)∧w'.cell? ⟨gb347,0,none⟩ = some (.int .i64 a4_0)∧w'.cell? ⟨gb347,1,none⟩ = some (.int .i64 a4_1)∧w'.cell? ⟨gb347,2,none⟩ = some (.int .i64 a4_2)∧w'.cell? ⟨gb347,3,none⟩ = some (.int .i64 a4_3)∧w'.cell? ⟨gb362,0,none⟩ = some (.int .i64 t356)∧w'.cell? ⟨gb362,1,none⟩ = some (.int .i64 t357)∧w'.cell? ⟨gb362,2,none⟩ = some (.slice (some ad363) t358.length co43)∧w'.cell? ad363 = some (.int .i64 ((rd_T38 t358 0).f0))∧w'.cell? ⟨ad363.block,ad363.off + 1,none⟩ = some (.int .i64 ((rd_T38 t358 0).f1))∧w'.cell? ⟨ad363.block,ad363.off + 2,none⟩ = some (.int .i64 ((rd_T38 t358 0).f2))∧w'.cell? ⟨ad363.block,ad363.off + 3,none⟩ = some (.int .i64 ((rd_T38 t358 0).f3))∧w'.cell? (ad364.add (((ji26)).toNat * 4)) = some (.int .i64 ((rd_T38 t351 (ji26)).f0))∧w'.cell? ⟨(ad364.add (((ji26)).toNat * 4)).block,(ad364.add (((ji26)).toNat * 4)).off + 1,none⟩ = some (.int .i64 ((rd_T38 t351 (ji26)).f1))∧w'.cell? ⟨(ad364.add (((ji26)).toNat * 4)).block,(ad364.add (((ji26)).toNat * 4)).off + 2,none⟩ = some (.int .i64 ((rd_T38 t351 (ji26)).f2))∧w'.cell? ⟨(ad364.add (((ji26)).toNat * 4)).block,(ad364.add (((ji26)).toNat * 4)).off + 3,none⟩ = some (.int .i64 ((rd_T38 t351 (ji26)).f3))) (ds:=[]) #[F_,F_,F_,F_,F_,F_,F_,F_,F_,F_,F_,F_,F_,F_,F_,F_,F_,F_,F_,F_,F_,F_,F_,F_,F_,F_,F_,F_,F_,F_,F_,F_,F_,F_,F_,F_,F_,F_,F_,F_] (by kernel_rfl) rfl rfl ⟨(blk_cell BK355.out 0).trans rfl,(blk_cell BK355.out 1).trans rfl,(blk_cell BK355.out 2).trans rfl,(blk_cell BK347.out 0).trans rfl,(blk_cell BK347.out 1).trans rfl,(blk_cell BK347.out 2).trans rfl,(blk_cell BK347.out 3).trans rfl,(blk_cell BK362.out 0).trans rfl,(blk_cell BK362.out 1).trans rfl,(blk_cell BK362.out 2).trans rfl,hx363_0,hx363_1,hx363_2,hx363_3,hx364_0,hx364_1,hx364_2,hx364_3⟩ (fun hHeld=>?_);refine with_tabW w18_GradientParts.tab7 w18_GradientParts.bits7 (fun HT_ HW_=>?_)
           generalize w44.drew = w45 at HO353 HO360 BK347 BK355 BK362 HB hx363_0 hx363_1 hx363_2 hx363_3 hx364_0 hx364_1 hx364_2 hx364_3 hHeld ⊢
           refine pure_ (i:=0) (N:=some 67) (v:=?_) (a':=?_) #[T_,F_,F_,F_,F_,F_,F_,F_,F_,F_,F_,F_,F_,F_,F_,F_,F_,F_,F_,F_,F_,F_,F_,F_,F_,F_,F_,F_,F_,F_,F_,F_,F_,F_,F_,F_,F_,F_,F_,F_] rfl rfl (any_of HT_.out (by kernel_rfl)) (fun _ _ _ h=>h) (Or.inl ⟨by rfl,?_⟩) ?_ ?_
           rotate_left
           ·intro w'
            go_simp
            with_reducible rfl
           rotate_left
           ·simp only [Act.put,tS_,tZ_,tC_,i64_w,i32_w]
            rfl
           refine pure_ (i:=1) (N:=some 68) (v:=?_) (a':=?_) #[T_,T_,F_,F_,F_,F_,F_,F_,F_,F_,F_,F_,F_,F_,F_,F_,F_,F_,F_,F_,F_,F_,F_,F_,F_,F_,F_,F_,F_,F_,F_,F_,F_,F_,F_,F_,F_,F_,F_,F_] rfl rfl (any_of HT_.out (by kernel_rfl)) (fun _ _ _ h=>h) (Or.inl ⟨by rfl,?_⟩) ?_ ?_
           rotate_left
           ·intro w'
            go_simp
            with_reducible rfl
           rotate_left
           ·simp only [Act.put,tS_,tZ_,tC_,i64_w,i32_w]
            rfl
           refine pure_ (i:=2) (N:=some 69) (v:=?_) (a':=?_) #[T_,T_,T_,F_,F_,F_,F_,F_,F_,F_,F_,F_,F_,F_,F_,F_,F_,F_,F_,F_,F_,F_,F_,F_,F_,F_,F_,F_,F_,F_,F_,F_,F_,F_,F_,F_,F_,F_,F_,F_] rfl rfl (any_of HT_.out (by kernel_rfl)) (fun _ _ _ h=>h) (Or.inl ⟨by rfl,?_⟩) ?_ ?_
           rotate_left
           ·intro w'
            go_simp
            with_reducible rfl
           rotate_left
           ·simp only [Act.put,tS_,tZ_,tC_,i64_w,i32_w]
            rfl
           refine pure_ (i:=3) (N:=some 70) (v:=?_) (a':=?_) #[T_,T_,T_,T_,F_,F_,F_,F_,F_,F_,F_,F_,F_,F_,F_,F_,F_,F_,F_,F_,F_,F_,F_,F_,F_,F_,F_,F_,F_,F_,F_,F_,F_,F_,F_,F_,F_,F_,F_,F_] rfl rfl (any_of HT_.out (by kernel_rfl)) (fun _ _ _ h=>h) (Or.inl ⟨by rfl,?_⟩) ?_ ?_
           rotate_left
           ·intro w'
            go_simp
            with_reducible rfl
           rotate_left
           ·simp only [Act.put,tS_,tZ_,tC_,i64_w,i32_w]
            rfl
           refine pure_ (i:=6) (N:=some 73) (v:=?_) (a':=?_) #[T_,T_,T_,T_,F_,F_,T_,F_,F_,F_,F_,F_,F_,F_,F_,F_,F_,F_,F_,F_,F_,F_,F_,F_,F_,F_,F_,F_,F_,F_,F_,F_,F_,F_,F_,F_,F_,F_,F_,F_] rfl rfl (any_of HT_.out (by kernel_rfl)) (fun _ _ _ h=>h) (Or.inl ⟨by rfl,?_⟩) ?_ ?_
           rotate_left
           ·intro w'
            go_simp
            with_reducible rfl
           rotate_left
           ·simp only [Act.put,tS_,tZ_,tC_,i64_w,i32_w]
            rfl
           refine pure_ (i:=8) (N:=some 75) (v:=?_) (a':=?_) #[T_,T_,T_,T_,F_,F_,T_,F_,T_,F_,F_,F_,F_,F_,F_,F_,F_,F_,F_,F_,F_,F_,F_,F_,F_,F_,F_,F_,F_,F_,F_,F_,F_,F_,F_,F_,F_,F_,F_,F_] rfl rfl (any_of HT_.out (by kernel_rfl)) (fun _ _ _ h=>h) (Or.inl ⟨by rfl,?_⟩) ?_ ?_
           rotate_left
           ·intro w'
            go_simp
            with_reducible rfl
           rotate_left
           ·simp only [Act.put,tS_,tZ_,tC_,i64_w,i32_w]
            rfl
           refine take_ (i:=4) (N:=some 71) (v:=?_) (a':=?_) #[T_,T_,T_,T_,T_,F_,T_,F_,T_,F_,F_,F_,F_,F_,F_,F_,F_,F_,F_,F_,F_,F_,F_,F_,F_,F_,F_,F_,F_,F_,F_,F_,F_,F_,F_,F_,F_,F_,F_,F_] rfl rfl (take_ofW HT_.out HW_.out (by kernel_rfl)) (fun _ _ _ h=>h) (Or.inl ⟨by rfl,?_⟩) hHeld ?_ ?_
           rotate_left
           ·rintro w' ⟨s0,s1,s2,s3,s4,s5,s6,s7,s8,s9,s10,s11,s12,s13,s14,s15,s16,s17⟩
            go_simp
            with_reducible rfl
           rotate_left
           ·simp only [Act.put,tS_,tZ_,tC_,i64_w,i32_w]
            rfl
           refine pure_ (i:=5) (N:=some 72) (v:=?_) (a':=?_) #[T_,T_,T_,T_,T_,T_,T_,F_,T_,F_,F_,F_,F_,F_,F_,F_,F_,F_,F_,F_,F_,F_,F_,F_,F_,F_,F_,F_,F_,F_,F_,F_,F_,F_,F_,F_,F_,F_,F_,F_] rfl rfl (any_of HT_.out (by kernel_rfl)) (fun _ _ _ h=>h) (Or.inl ⟨by rfl,?_⟩) ?_ ?_
           rotate_left
           ·intro w'
            go_simp
            with_reducible rfl
           rotate_left
           ·simp only [Act.put,tS_,tZ_,tC_,i64_w,i32_w]
            rfl
           refine take_ (i:=7) (N:=some 74) (v:=?_) (a':=?_) #[T_,T_,T_,T_,T_,T_,T_,T_,T_,F_,F_,F_,F_,F_,F_,F_,F_,F_,F_,F_,F_,F_,F_,F_,F_,F_,F_,F_,F_,F_,F_,F_,F_,F_,F_,F_,F_,F_,F_,F_] rfl rfl (take_ofW HT_.out HW_.out (by kernel_rfl)) (fun _ _ _ h=>h) (Or.inl ⟨by rfl,?_⟩) hHeld ?_ ?_
           rotate_left
           ·rintro w' ⟨s0,s1,s2,s3,s4,s5,s6,s7,s8,s9,s10,s11,s12,s13,s14,s15,s16,s17⟩
            go_simp
            with_reducible rfl
           rotate_left
           ·simp only [Act.put,tS_,tZ_,tC_,i64_w,i32_w]
            rfl
           refine take_ (i:=9) (N:=some 76) (v:=?_) (a':=?_) #[T_,T_,T_,T_,T_,T_,T_,T_,T_,T_,F_,F_,F_,F_,F_,F_,F_,F_,F_,F_,F_,F_,F_,F_,F_,F_,F_,F_,F_,F_,F_,F_,F_,F_,F_,F_,F_,F_,F_,F_] rfl rfl (take_ofW HT_.out HW_.out (by kernel_rfl)) (fun _ _ _ h=>h) (Or.inl ⟨by rfl,?_⟩) hHeld ?_ ?_
           rotate_left
           ·rintro w' ⟨s0,s1,s2,s3,s4,s5,s6,s7,s8,s9,s10,s11,s12,s13,s14,s15,s16,s17⟩
            go_simp
            with_reducible rfl
           rotate_left
           ·simp only [Act.put,tS_,tZ_,tC_,i64_w,i32_w]
            rfl
           refine pure_ (i:=10) (N:=some 77) (v:=?_) (a':=?_) #[T_,T_,T_,T_,T_,T_,T_,T_,T_,T_,T_,F_,F_,F_,F_,F_,F_,F_,F_,F_,F_,F_,F_,F_,F_,F_,F_,F_,F_,F_,F_,F_,F_,F_,F_,F_,F_,F_,F_,F_] rfl rfl (any_of HT_.out (by kernel_rfl)) (fun _ _ _ h=>h) (Or.inl ⟨by rfl,?_⟩) ?_ ?_
           rotate_left
           ·intro w'
            go_simp
            with_reducible rfl
           rotate_left
           ·simp only [Act.put,tS_,tZ_,tC_,i64_w,i32_w]
            rfl
           refine pure_ (i:=11) (N:=some 78) (v:=?_) (a':=?_) #[T_,T_,T_,T_,T_,T_,T_,T_,T_,T_,T_,T_,F_,F_,F_,F_,F_,F_,F_,F_,F_,F_,F_,F_,F_,F_,F_,F_,F_,F_,F_,F_,F_,F_,F_,F_,F_,F_,F_,F_] rfl rfl (any_of HT_.out (by kernel_rfl)) (fun _ _ _ h=>h) (Or.inl ⟨by rfl,?_⟩) ?_ ?_
           rotate_left
           ·intro w'
            go_simp
            with_reducible rfl
           rotate_left
           ·simp only [Act.put,tS_,tZ_,tC_,i64_w,i32_w]
            rfl
           refine pure_ (i:=12) (N:=some 79) (v:=?_) (a':=?_) #[T_,T_,T_,T_,T_,T_,T_,T_,T_,T_,T_,T_,T_,F_,F_,F_,F_,F_,F_,F_,F_,F_,F_,F_,F_,F_,F_,F_,F_,F_,F_,F_,F_,F_,F_,F_,F_,F_,F_,F_] rfl rfl (any_of HT_.out (by kernel_rfl)) (fun _ _ _ h=>h) (Or.inl ⟨by rfl,?_⟩) ?_ ?_
           rotate_left
           ·intro w'
            go_simp
            with_reducible rfl
           rotate_left
           ·simp only [Act.put,tS_,tZ_,tC_,i64_w,i32_w]
            rfl
           refine pure_ (i:=13) (N:=some 80) (v:=?_) (a':=?_) #[T_,T_,T_,T_,T_,T_,T_,T_,T_,T_,T_,T_,T_,T_,F_,F_,F_,F_,F_,F_,F_,F_,F_,F_,F_,F_,F_,F_,F_,F_,F_,F_,F_,F_,F_,F_,F_,F_,F_,F_] rfl rfl (any_of HT_.out (by kernel_rfl)) (fun _ _ _ h=>h) (Or.inl ⟨by rfl,?_⟩) ?_ ?_
           rotate_left
           ·intro w'
            go_simp
            with_reducible rfl
           rotate_left
           ·simp only [Act.put,tS_,tZ_,tC_,i64_w,i32_w]
            rfl
           refine pure_ (i:=14) (N:=some 81) (v:=?_) (a':=?_) #[T_,T_,T_,T_,T_,T_,T_,T_,T_,T_,T_,T_,T_,T_,T_,F_,F_,F_,F_,F_,F_,F_,F_,F_,F_,F_,F_,F_,F_,F_,F_,F_,F_,F_,F_,F_,F_,F_,F_,F_] rfl rfl (any_of HT_.out (by kernel_rfl)) (fun _ _ _ h=>h) (Or.inl ⟨by rfl,?_⟩) ?_ ?_
           rotate_left
           ·intro w'
            go_simp
            with_reducible rfl
           rotate_left
           ·simp only [Act.put,tS_,tZ_,tC_,i64_w,i32_w]
            rfl
           refine take_ (i:=15) (N:=some 82) (v:=?_) (a':=?_) #[T_,T_,T_,T_,T_,T_,T_,T_,T_,T_,T_,T_,T_,T_,T_,T_,F_,F_,F_,F_,F_,F_,F_,F_,F_,F_,F_,F_,F_,F_,F_,F_,F_,F_,F_,F_,F_,F_,F_,F_] rfl rfl (take_ofW HT_.out HW_.out (by kernel_rfl)) (fun _ _ _ h=>h) (Or.inl ⟨by rfl,?_⟩) hHeld ?_ ?_
           rotate_left
           ·rintro w' ⟨s0,s1,s2,s3,s4,s5,s6,s7,s8,s9,s10,s11,s12,s13,s14,s15,s16,s17⟩
            go_simp
            with_reducible rfl
           rotate_left
           ·simp only [Act.put,tS_,tZ_,tC_,i64_w,i32_w]
            rfl
           refine pure_ (i:=16) (N:=some 83) (v:=?_) (a':=?_) #[T_,T_,T_,T_,T_,T_,T_,T_,T_,T_,T_,T_,T_,T_,T_,T_,T_,F_,F_,F_,F_,F_,F_,F_,F_,F_,F_,F_,F_,F_,F_,F_,F_,F_,F_,F_,F_,F_,F_,F_] rfl rfl (any_of HT_.out (by kernel_rfl)) (fun _ _ _ h=>h) (Or.inl ⟨by rfl,?_⟩) ?_ ?_
           rotate_left
           ·intro w'
            go_simp
            with_reducible rfl
           rotate_left
           ·simp only [Act.put,tS_,tZ_,tC_,i64_w,i32_w]
            rfl
           refine pure_ (i:=17) (N:=some 84) (v:=?_) (a':=?_) #[T_,T_,T_,T_,T_,T_,T_,T_,T_,T_,T_,T_,T_,T_,T_,T_,T_,T_,F_,F_,F_,F_,F_,F_,F_,F_,F_,F_,F_,F_,F_,F_,F_,F_,F_,F_,F_,F_,F_,F_] rfl rfl (any_of HT_.out (by kernel_rfl)) (fun _ _ _ h=>h) (Or.inl ⟨by rfl,?_⟩) ?_ ?_
           rotate_left
           ·intro w'
            go_simp
            with_reducible rfl
           rotate_left
           ·simp only [Act.put,tS_,tZ_,tC_,i64_w,i32_w]
            rfl
           refine pure_ (i:=18) (N:=some 85) (v:=?_) (a':=?_) #[T_,T_,T_,T_,T_,T_,T_,T_,T_,T_,T_,T_,T_,T_,T_,T_,T_,T_,T_,F_,F_,F_,F_,F_,F_,F_,F_,F_,F_,F_,F_,F_,F_,F_,F_,F_,F_,F_,F_,F_] rfl rfl (any_of HT_.out (by kernel_rfl)) (fun _ _ _ h=>h) (Or.inl ⟨by rfl,?_⟩) ?_ ?_
           rotate_left
           ·intro w'
            go_simp
            with_reducible rfl
           rotate_left
           ·simp only [Act.put,tS_,tZ_,tC_,i64_w,i32_w]
            rfl
           refine pure_ (i:=19) (N:=some 86) (v:=?_) (a':=?_) #[T_,T_,T_,T_,T_,T_,T_,T_,T_,T_,T_,T_,T_,T_,T_,T_,T_,T_,T_,T_,F_,F_,F_,F_,F_,F_,F_,F_,F_,F_,F_,F_,F_,F_,F_,F_,F_,F_,F_,F_] rfl rfl (any_of HT_.out (by kernel_rfl)) (fun _ _ _ h=>h) (Or.inl ⟨by rfl,?_⟩) ?_ ?_
           rotate_left
           ·intro w'
            go_simp
            with_reducible rfl
           rotate_left
           ·simp only [Act.put,tS_,tZ_,tC_,i64_w,i32_w]
            rfl
           refine pure_ (i:=20) (N:=some 87) (v:=?_) (a':=?_) #[T_,T_,T_,T_,T_,T_,T_,T_,T_,T_,T_,T_,T_,T_,T_,T_,T_,T_,T_,T_,T_,F_,F_,F_,F_,F_,F_,F_,F_,F_,F_,F_,F_,F_,F_,F_,F_,F_,F_,F_] rfl rfl (any_of HT_.out (by kernel_rfl)) (fun _ _ _ h=>h) (Or.inl ⟨by rfl,?_⟩) ?_ ?_
           rotate_left
           ·intro w'
            go_simp
            with_reducible rfl
           rotate_left
           ·simp only [Act.put,tS_,tZ_,tC_,i64_w,i32_w]
            rfl
           refine pure_ (i:=24) (N:=some 91) (v:=?_) (a':=?_) #[T_,T_,T_,T_,T_,T_,T_,T_,T_,T_,T_,T_,T_,T_,T_,T_,T_,T_,T_,T_,T_,F_,F_,F_,T_,F_,F_,F_,F_,F_,F_,F_,F_,F_,F_,F_,F_,F_,F_,F_] rfl rfl (any_of HT_.out (by kernel_rfl)) (fun _ _ _ h=>h) (Or.inl ⟨by rfl,?_⟩) ?_ ?_
           rotate_left
           ·intro w'
            go_simp
            with_reducible rfl
           rotate_left
           ·simp only [Act.put,tS_,tZ_,tC_,i64_w,i32_w]
            rfl
           refine pure_ (i:=26) (N:=some 93) (v:=?_) (a':=?_) #[T_,T_,T_,T_,T_,T_,T_,T_,T_,T_,T_,T_,T_,T_,T_,T_,T_,T_,T_,T_,T_,F_,F_,F_,T_,F_,T_,F_,F_,F_,F_,F_,F_,F_,F_,F_,F_,F_,F_,F_] rfl rfl (any_of HT_.out (by kernel_rfl)) (fun _ _ _ h=>h) (Or.inl ⟨by rfl,?_⟩) ?_ ?_
           rotate_left
           ·intro w'
            go_simp
            with_reducible rfl
           rotate_left
           ·simp only [Act.put,tS_,tZ_,tC_,i64_w,i32_w]
            rfl
           refine pure_ (i:=27) (N:=some 94) (v:=?_) (a':=?_) #[T_,T_,T_,T_,T_,T_,T_,T_,T_,T_,T_,T_,T_,T_,T_,T_,T_,T_,T_,T_,T_,F_,F_,F_,T_,F_,T_,T_,F_,F_,F_,F_,F_,F_,F_,F_,F_,F_,F_,F_] rfl rfl (any_of HT_.out (by kernel_rfl)) (fun _ _ _ h=>h) (Or.inl ⟨by rfl,?_⟩) ?_ ?_
           rotate_left
           ·intro w'
            go_simp
            with_reducible rfl
           rotate_left
           ·simp only [Act.put,tS_,tZ_,tC_,i64_w,i32_w]
            rfl
           refine pure_ (i:=30) (N:=some 97) (v:=?_) (a':=?_) #[T_,T_,T_,T_,T_,T_,T_,T_,T_,T_,T_,T_,T_,T_,T_,T_,T_,T_,T_,T_,T_,F_,F_,F_,T_,F_,T_,T_,F_,F_,T_,F_,F_,F_,F_,F_,F_,F_,F_,F_] rfl rfl (any_of HT_.out (by kernel_rfl)) (fun _ _ _ h=>h) (Or.inl ⟨by rfl,?_⟩) ?_ ?_
           rotate_left
           ·intro w'
            go_simp
            with_reducible rfl
           rotate_left
           ·simp only [Act.put,tS_,tZ_,tC_,i64_w,i32_w]
            rfl
           refine take_ (i:=21) (N:=some 88) (v:=?_) (a':=?_) #[T_,T_,T_,T_,T_,T_,T_,T_,T_,T_,T_,T_,T_,T_,T_,T_,T_,T_,T_,T_,T_,T_,F_,F_,T_,F_,T_,T_,F_,F_,T_,F_,F_,F_,F_,F_,F_,F_,F_,F_] rfl rfl (take_ofW HT_.out HW_.out (by kernel_rfl)) (fun _ _ _ h=>h) (Or.inl ⟨by rfl,?_⟩) hHeld ?_ ?_
           rotate_left
           ·rintro w' ⟨s0,s1,s2,s3,s4,s5,s6,s7,s8,s9,s10,s11,s12,s13,s14,s15,s16,s17⟩
            go_simp
            with_reducible rfl
           rotate_left
           ·simp only [Act.put,tS_,tZ_,tC_,i64_w,i32_w]
            rfl
           refine pure_ (i:=22) (N:=some 89) (v:=?_) (a':=?_) #[T_,T_,T_,T_,T_,T_,T_,T_,T_,T_,T_,T_,T_,T_,T_,T_,T_,T_,T_,T_,T_,T_,T_,F_,T_,F_,T_,T_,F_,F_,T_,F_,F_,F_,F_,F_,F_,F_,F_,F_] rfl rfl (any_of HT_.out (by kernel_rfl)) (fun _ _ _ h=>h) (Or.inl ⟨by rfl,?_⟩) ?_ ?_
           rotate_left
           ·intro w'
            go_simp
            with_reducible rfl
           rotate_left
           ·simp only [Act.put,tS_,tZ_,tC_,i64_w,i32_w]
            rfl
           refine take_ (i:=23) (N:=some 90) (v:=?_) (a':=?_) #[T_,T_,T_,T_,T_,T_,T_,T_,T_,T_,T_,T_,T_,T_,T_,T_,T_,T_,T_,T_,T_,T_,T_,T_,T_,F_,T_,T_,F_,F_,T_,F_,F_,F_,F_,F_,F_,F_,F_,F_] rfl rfl (take_ofW HT_.out HW_.out (by kernel_rfl)) (fun _ _ _ h=>h) (Or.inl ⟨by rfl,?_⟩) hHeld ?_ ?_
           rotate_left
           ·rintro w' ⟨s0,s1,s2,s3,s4,s5,s6,s7,s8,s9,s10,s11,s12,s13,s14,s15,s16,s17⟩
            go_simp
            with_reducible rfl
           rotate_left
           ·simp only [Act.put,tS_,tZ_,tC_,i64_w,i32_w]
            rfl
           refine take_ (i:=25) (N:=some 92) (v:=?_) (a':=?_) #[T_,T_,T_,T_,T_,T_,T_,T_,T_,T_,T_,T_,T_,T_,T_,T_,T_,T_,T_,T_,T_,T_,T_,T_,T_,T_,T_,T_,F_,F_,T_,F_,F_,F_,F_,F_,F_,F_,F_,F_] rfl rfl (take_ofW HT_.out HW_.out (by kernel_rfl)) (fun _ _ _ h=>h) (Or.inl ⟨by rfl,?_⟩) hHeld ?_ ?_
           rotate_left
           ·rintro w' ⟨s0,s1,s2,s3,s4,s5,s6,s7,s8,s9,s10,s11,s12,s13,s14,s15,s16,s17⟩
            go_simp
            with_reducible rfl
           rotate_left
           ·simp only [Act.put,tS_,tZ_,tC_,i64_w,i32_w]
            rfl
           refine take_ (i:=28) (N:=some 95) (v:=?_) (a':=?_) #[T_,T_,T_,T_,T_,T_,T_,T_,T_,T_,T_,T_,T_,T_,T_,T_,T_,T_,T_,T_,T_,T_,T_,T_,T_,T_,T_,T_,T_,F_,T_,F_,F_,F_,F_,F_,F_,F_,F_,F_] rfl rfl (take_ofW HT_.out HW_.out (by kernel_rfl)) (fun _ _ _ h=>h) (Or.inl ⟨by rfl,?_⟩) hHeld ?_ ?_
           rotate_left
           ·rintro w' ⟨s0,s1,s2,s3,s4,s5,s6,s7,s8,s9,s10,s11,s12,s13,s14,s15,s16,s17⟩
            go_simp
            with_reducible rfl
           rotate_left
           ·simp only [Act.put,tS_,tZ_,tC_,i64_w,i32_w]
            rfl
           refine pure_ (i:=29) (N:=some 96) (v:=?_) (a':=?_) #[T_,T_,T_,T_,T_,T_,T_,T_,T_,T_,T_,T_,T_,T_,T_,T_,T_,T_,T_,T_,T_,T_,T_,T_,T_,T_,T_,T_,T_,T_,T_,F_,F_,F_,F_,F_,F_,F_,F_,F_] rfl rfl (any_of HT_.out (by kernel_rfl)) (fun _ _ _ h=>h) (Or.inl ⟨by rfl,?_⟩) ?_ ?_
           rotate_left
           ·intro w'
            go_simp
            with_reducible rfl
           rotate_left
           ·simp only [Act.put,tS_,tZ_,tC_,i64_w,i32_w]
            rfl
           refine pure_ (i:=31) (N:=some 98) (v:=?_) (a':=?_) #[T_,T_,T_,T_,T_,T_,T_,T_,T_,T_,T_,T_,T_,T_,T_,T_,T_,T_,T_,T_,T_,T_,T_,T_,T_,T_,T_,T_,T_,T_,T_,T_,F_,F_,F_,F_,F_,F_,F_,F_] rfl rfl (any_of HT_.out (by kernel_rfl)) (fun _ _ _ h=>h) (Or.inl ⟨by rfl,?_⟩) ?_ ?_
           rotate_left
           ·intro w'
            go_simp
            with_reducible rfl
           rotate_left
           ·simp only [Act.put,tS_,tZ_,tC_,i64_w,i32_w]
            rfl
           refine pure_ (i:=32) (N:=some 99) (v:=?_) (a':=?_) #[T_,T_,T_,T_,T_,T_,T_,T_,T_,T_,T_,T_,T_,T_,T_,T_,T_,T_,T_,T_,T_,T_,T_,T_,T_,T_,T_,T_,T_,T_,T_,T_,T_,F_,F_,F_,F_,F_,F_,F_] rfl rfl (any_of HT_.out (by kernel_rfl)) (fun _ _ _ h=>h) (Or.inl ⟨by rfl,?_⟩) ?_ ?_
           rotate_left
           ·intro w'
            go_simp
            with_reducible rfl
           rotate_left
           ·simp only [Act.put,tS_,tZ_,tC_,i64_w,i32_w]
            rfl
           refine take_ (i:=33) (N:=some 100) (v:=?_) (a':=?_) #[T_,T_,T_,T_,T_,T_,T_,T_,T_,T_,T_,T_,T_,T_,T_,T_,T_,T_,T_,T_,T_,T_,T_,T_,T_,T_,T_,T_,T_,T_,T_,T_,T_,T_,F_,F_,F_,F_,F_,F_] rfl rfl (take_ofW HT_.out HW_.out (by kernel_rfl)) (fun _ _ _ h=>h) (Or.inl ⟨by rfl,?_⟩) hHeld ?_ ?_
           rotate_left
           ·rintro w' ⟨s0,s1,s2,s3,s4,s5,s6,s7,s8,s9,s10,s11,s12,s13,s14,s15,s16,s17⟩
            go_simp
            with_reducible rfl
           rotate_left
           ·simp only [Act.put,tS_,tZ_,tC_,i64_w,i32_w]
            rfl
           refine pure_ (i:=34) (N:=some 101) (v:=?_) (a':=?_) #[T_,T_,T_,T_,T_,T_,T_,T_,T_,T_,T_,T_,T_,T_,T_,T_,T_,T_,T_,T_,T_,T_,T_,T_,T_,T_,T_,T_,T_,T_,T_,T_,T_,T_,T_,F_,F_,F_,F_,F_] rfl rfl (any_of HT_.out (by kernel_rfl)) (fun _ _ _ h=>h) (Or.inl ⟨by rfl,?_⟩) ?_ ?_
           rotate_left
           ·intro w'
            go_simp
            with_reducible rfl
           rotate_left
           ·simp only [Act.put,tS_,tZ_,tC_,i64_w,i32_w]
            rfl
           refine pure_ (i:=35) (N:=some 102) (v:=?_) (a':=?_) #[T_,T_,T_,T_,T_,T_,T_,T_,T_,T_,T_,T_,T_,T_,T_,T_,T_,T_,T_,T_,T_,T_,T_,T_,T_,T_,T_,T_,T_,T_,T_,T_,T_,T_,T_,T_,F_,F_,F_,F_] rfl rfl (any_of HT_.out (by kernel_rfl)) (fun _ _ _ h=>h) (Or.inl ⟨by rfl,?_⟩) ?_ ?_
           rotate_left
           ·intro w'
            go_simp
            with_reducible rfl
           rotate_left
           ·simp only [Act.put,tS_,tZ_,tC_,i64_w,i32_w]
            rfl
           refine pure_ (i:=36) (N:=some 103) (v:=?_) (a':=?_) #[T_,T_,T_,T_,T_,T_,T_,T_,T_,T_,T_,T_,T_,T_,T_,T_,T_,T_,T_,T_,T_,T_,T_,T_,T_,T_,T_,T_,T_,T_,T_,T_,T_,T_,T_,T_,T_,F_,F_,F_] rfl rfl (any_of HT_.out (by kernel_rfl)) (fun _ _ _ h=>h) (Or.inl ⟨by rfl,?_⟩) ?_ ?_
           rotate_left
           ·intro w'
            go_simp
            with_reducible rfl
           rotate_left
           ·simp only [Act.put,tS_,tZ_,tC_,i64_w,i32_w]
            rfl
           refine one_ (i:=37) (N:=some 104) #[T_,T_,T_,T_,T_,T_,T_,T_,T_,T_,T_,T_,T_,T_,T_,T_,T_,T_,T_,T_,T_,T_,T_,T_,T_,T_,T_,T_,T_,T_,T_,T_,T_,T_,T_,T_,T_,T_,F_,F_] rfl rfl (one_of HT_.out (by kernel_rfl)) (by decide) (fun K hK=>?_)
           refine goes_ Try.func13 (by kernel_rfl) rfl #[] (by rfl) rfl rfl (by (try simp only [mA_,mC_,mN_]);first|done|rfl|(simp only [dL_,kL_];rfl)) ?_
           with_reducible refine (w18_awake.calls kj7  t365 _ A30.out).mono ?_
           rintro e w46 ⟨rfl,hb⟩;have HS10_:=(hb.cell (World.block_lt_of_cell? _ _ (hHeld.2.2.2.2.2.2.2.2.2.2.1))).trans (hHeld.2.2.2.2.2.2.2.2.2.2.1);have HS11_:=(hb.cell (World.block_lt_of_cell? _ _ (hHeld.2.2.2.2.2.2.2.2.2.2.2.1))).trans (hHeld.2.2.2.2.2.2.2.2.2.2.2.1);have HS12_:=(hb.cell (World.block_lt_of_cell? _ _ (hHeld.2.2.2.2.2.2.2.2.2.2.2.2.1))).trans (hHeld.2.2.2.2.2.2.2.2.2.2.2.2.1);have HS13_:=(hb.cell (World.block_lt_of_cell? _ _ (hHeld.2.2.2.2.2.2.2.2.2.2.2.2.2.1))).trans (hHeld.2.2.2.2.2.2.2.2.2.2.2.2.2.1);have HS14_:=(hb.cell (World.block_lt_of_cell? _ _ (hHeld.2.2.2.2.2.2.2.2.2.2.2.2.2.2.1))).trans (hHeld.2.2.2.2.2.2.2.2.2.2.2.2.2.2.1);have HS15_:=(hb.cell (World.block_lt_of_cell? _ _ (hHeld.2.2.2.2.2.2.2.2.2.2.2.2.2.2.2.1))).trans (hHeld.2.2.2.2.2.2.2.2.2.2.2.2.2.2.2.1);have HS16_:=(hb.cell (World.block_lt_of_cell? _ _ (hHeld.2.2.2.2.2.2.2.2.2.2.2.2.2.2.2.2.1))).trans (hHeld.2.2.2.2.2.2.2.2.2.2.2.2.2.2.2.2.1);have HS17_:=(hb.cell (World.block_lt_of_cell? _ _ (hHeld.2.2.2.2.2.2.2.2.2.2.2.2.2.2.2.2.2))).trans (hHeld.2.2.2.2.2.2.2.2.2.2.2.2.2.2.2.2.2);refine ⟨_,rfl,?_⟩
           have n0_:=Aside0.mk (Kd.R_below (by (with_reducible repeat (first|apply Kd.R_alloc|apply Kd.R_drewN|apply Kd.R_drew));exact HO353.out) hb)
           have n1_:=Aside0.mk (Kd.R_below (by (with_reducible repeat (first|apply Kd.R_alloc|apply Kd.R_drewN|apply Kd.R_drew));exact HO360.out) hb)
           have n2_:=Aside0.mk (blk_below (by (with_reducible repeat first|apply bN_|apply bD_|apply bA_);exact BK347.out) hb)
           have n3_:=Aside0.mk (blk_below (by (with_reducible repeat first|apply bN_|apply bD_|apply bA_);exact BK355.out) hb)
           have n4_:=Aside0.mk (blk_below (by (with_reducible repeat first|apply bN_|apply bD_|apply bA_);exact BK362.out) hb)
           have n5_:=Aside0.mk (below_step (by repeat first|(with_reducible first|exact HB.out|apply lA_|apply lN_|apply lD_|refine lS_ ?_ GE347.out|refine lS_ ?_ GE355.out|refine lS_ ?_ GE362.out)|exact HB.out) hb)
           clear HO353;clear HO360;clear BK347;clear BK355;clear BK362;clear HB;have HO353:=n0_;have HO360:=n1_;have BK347:=n2_;have BK355:=n3_;have BK362:=n4_;have HB:=n5_;clear n0_ n1_ n2_ n3_ n4_ n5_
           (try clear hb)
           (try clear hb2)
           (try clear hk)
           (try clear hi)
           refine hK.out _ _ ⟨(blk_cell BK355.out 0).trans rfl,(blk_cell BK355.out 1).trans rfl,(blk_cell BK355.out 2).trans rfl,(blk_cell BK347.out 0).trans rfl,(blk_cell BK347.out 1).trans rfl,(blk_cell BK347.out 2).trans rfl,(blk_cell BK347.out 3).trans rfl,(blk_cell BK362.out 0).trans rfl,(blk_cell BK362.out 1).trans rfl,(blk_cell BK362.out 2).trans rfl,HS10_,HS11_,HS12_,HS13_,HS14_,HS15_,HS16_,HS17_⟩ (fun hHeld=>?_)
           clear hK K;refine norm_ (a':=?_) ?_ ?_;rotate_left
           ·show Act.put _ (some 104) _ = _
            simp only [Act.put,tS_,tZ_,tC_,i64_w,i32_w];rfl
           refine pure_ (i:=38) (N:=some 105) (v:=?_) (a':=?_) #[T_,T_,T_,T_,T_,T_,T_,T_,T_,T_,T_,T_,T_,T_,T_,T_,T_,T_,T_,T_,T_,T_,T_,T_,T_,T_,T_,T_,T_,T_,T_,T_,T_,T_,T_,T_,T_,T_,T_,F_] rfl rfl (any_of HT_.out (by kernel_rfl)) (fun _ _ _ h=>h) (Or.inl ⟨by rfl,?_⟩) ?_ ?_
           rotate_left
           ·intro w'
            go_simp
            with_reducible rfl
           rotate_left
           ·simp only [Act.put,tS_,tZ_,tC_,i64_w,i32_w]
            rfl
           refine pure_ (i:=39) (N:=some 14) (v:=?_) (a':=?_) #[T_,T_,T_,T_,T_,T_,T_,T_,T_,T_,T_,T_,T_,T_,T_,T_,T_,T_,T_,T_,T_,T_,T_,T_,T_,T_,T_,T_,T_,T_,T_,T_,T_,T_,T_,T_,T_,T_,T_,T_] rfl rfl (any_of HT_.out (by kernel_rfl)) (fun _ _ _ h=>h) (Or.inl ⟨by rfl,?_⟩) ?_ ?_
           rotate_left
           ·intro w'
            go_simp
            with_reducible rfl
           rotate_left
           ·simp only [Act.put,tS_,tZ_,tC_,i64_w,i32_w]
            rfl
           refine done_ (done_of HT_.out (by kernel_rfl)) ?_
           try go_wp2
           go_ret
           exact ⟨by first|rfl|(simp [errW_none,errW_some] <;> rfl)|(simp only [← hji26];first|rfl|(simp [errW_none,errW_some] <;> rfl))|(simp [*,errW_none,errW_some] <;> rfl),by repeat first|(with_reducible first|exact HB.out|apply lA_|apply lN_|apply lD_|refine lS_ ?_ GE347.out|refine lS_ ?_ GE355.out|refine lS_ ?_ GE362.out)|exact HB.out⟩
          rw [if_neg c29] at H
          exact absurd H (by simp)
         rw [if_neg c28] at H
         exact absurd H (by simp)
        rw [if_neg c27] at H
        exact absurd H (by simp)
       rw [if_neg c25] at H
       exact absurd H (by simp)
      rw [if_neg c24] at H
      exact absurd H (by simp)
     rw [if_neg c23] at H
     exact absurd H (by simp)
    rw [if_neg c22] at H
    exact absurd H (by simp)
   rw [if_neg c20] at H;have c20b0:(t354 == 0) = false:=beq_eq_false_iff_ne.mpr c20;have c20b1:(t354 != 0) = true:=bne_iff_ne.mpr c20;replace H:=Option.bind_eq_some_iff.mp H;obtain ⟨t366,A470,H⟩:=H;replace H:(some t366) = some r:=H;have A47:=Aside0.mk A470;clear A470;obtain rfl:=Option.some.inj H;have hcz48_0:wc.cell? ⟨gb347,0,none⟩ = some (.int .i64 a4_0):=(blk_cell BK347.out 0).trans rfl;have hcz48_1:wc.cell? ⟨gb347,1,none⟩ = some (.int .i64 a4_1):=(blk_cell BK347.out 1).trans rfl;have hcz48_2:wc.cell? ⟨gb347,2,none⟩ = some (.int .i64 a4_2):=(blk_cell BK347.out 2).trans rfl;have hcz48_3:wc.cell? ⟨gb347,3,none⟩ = some (.int .i64 a4_3):=(blk_cell BK347.out 3).trans rfl;have hfz48_0:=blk_frozen BK347.out 0;have hfz48_1:=blk_frozen BK347.out 1;have hfz48_2:=blk_frozen BK347.out 2;have hfz48_3:=blk_frozen BK347.out 3
   go_wp2_with (first|((with_reducible refine gate_callee (f:=15) rfl ?_);refine goesL_ (some 44) rfl rfl Try.func15 (by kernel_rfl) rfl #[.int .i64 a0,.slice A1 l1.length c1,.int .i64 a2,.slice A3 l3.length c3,.agg #[.int .i64 a4_0,.int .i64 a4_1,.int .i64 a4_2,.int .i64 a4_3]] rfl (by (try simp only [mA_,mC_,mN_]);first|done|rfl|(simp only [dL_,kL_];rfl)) ?_;(with_reducible refine (gr_Draw.calls kj7 a0 _ _ l1 a2 _ _ l3 a4_0 a4_1 a4_2 a4_3 t349 t350 t351 t354 _ ?side1 ?side2 ?side3 ?side4 A19.out).mono ?_);(case side1=>repeat (first|exact (Kd.C_below HR1.out HB.out)|(with_reducible refine Kd.C_alloc ?_ _)|(with_reducible refine Kd.C_drewN ?_ _)|(with_reducible refine Kd.C_drew ?_)));(case side2=>exact HC1.out);(case side3=>repeat (first|exact (Kd.C_below HR3.out HB.out)|(with_reducible refine Kd.C_alloc ?_ _)|(with_reducible refine Kd.C_drewN ?_ _)|(with_reducible refine Kd.C_drew ?_)));(case side4=>exact HC3.out);rintro e w49 ⟨v352,rfl,ho0,hb⟩;refine ⟨_,rfl,?_⟩;have n0_:=Aside0.mk (Kd.R_lower ho0 (below_size (by repeat first|(with_reducible first|exact HB.out|apply lA_|apply lN_|apply lD_|refine lS_ ?_ GE347.out)|exact HB.out)));have n1_:=Aside0.mk (blk_below (by (with_reducible repeat first|apply bN_|apply bD_|apply bA_);exact BK347.out) hb);have n2_:=Aside0.mk (below_step (by repeat first|(with_reducible first|exact HB.out|apply lA_|apply lN_|apply lD_|refine lS_ ?_ GE347.out)|exact HB.out) hb);clear BK347;clear HB;have HO353:=n0_;have BK347:=n1_;have HB:=n2_;clear n0_ n1_ n2_;(try clear hb);(try clear hb2);(try clear hk);(try clear hi);(try clear ho0))|((with_reducible refine gate_dst (N:=15) rfl ?_);(try (refine gate_grd (by rfl) ?_;dsimp only));refine box_event ?hg (N:=15) ?hd (cs:=#[.int .i64 0,.int .i64 0,.slice none 0 0]) (t:=34) ?hr ?_;(case hd=>rfl);(case hg=>rfl);(case hr=>first|(go_simp;done)|(go_simp;rfl));intro gb355 hg w50 hbox hb;have n0_:=Aside0.mk (Kd.R_below (by (with_reducible repeat (first|apply Kd.R_alloc|apply Kd.R_drewN|apply Kd.R_drew));exact HO353.out) hb);have n1_:=Aside0.mk (blk_below (by (with_reducible repeat first|apply bN_|apply bD_|apply bA_);exact BK347.out) hb);have n2_:=Aside0.mk (below_step (by repeat first|(with_reducible first|exact HB.out|apply lA_|apply lN_|apply lD_|refine lS_ ?_ GE347.out)|exact HB.out) hb);have n3_:=Aside0.mk (hbox);have n4_:=Aside0.mk ((by rw [hg];exact (below_size (by repeat first|(with_reducible first|exact HB.out|apply lA_|apply lN_|apply lD_|refine lS_ ?_ GE347.out)|exact HB.out)):w.heap.size≤gb355));have n5_:=Aside0.mk ((by rw [hg];exact (below_size (by repeat first|(with_reducible first|exact HB.out|apply lA_|apply lN_|apply lD_|refine lS_ ?_ GE347.out)|exact HB.out)):w.heap.size≤gb355));have n6_:=Aside0.mk ((by rw [hg];exact Nat.ne_of_lt (blk_lt (g:=gb347) (o:=.cells #[.int .i64 a4_0,.int .i64 a4_1,.int .i64 a4_2,.int .i64 a4_3] 31 (0,0)) (by (with_reducible repeat first|apply bN_|apply bD_|apply bA_);exact BK347.out)):gb347 ≠ gb355));have n7_:=Aside0.mk ((by rw [hg];exact Nat.ne_of_gt (blk_lt (g:=gb347) (o:=.cells #[.int .i64 a4_0,.int .i64 a4_1,.int .i64 a4_2,.int .i64 a4_3] 31 (0,0)) (by (with_reducible repeat first|apply bN_|apply bD_|apply bA_);exact BK347.out)):gb355 ≠ gb347));clear HO353;clear BK347;clear HB;have HO353:=n0_;have BK347:=n1_;have HB:=n2_;have BK355:=n3_;have GW355:=n4_;have GE355:=n5_;have NB347_355:=n6_;have NB355_347:=n7_;clear n0_ n1_ n2_ n3_ n4_ n5_ n6_ n7_;clear hb hbox hg;have hnb51:=NB355_347.out;have hnc51:=NB347_355.out;have hcz52_0:w50.cell? ⟨gb355,0,none⟩ = some (.int .i64 0):=(blk_cell BK355.out 0).trans rfl;have hcz52_1:w50.cell? ⟨gb355,1,none⟩ = some (.int .i64 0):=(blk_cell BK355.out 1).trans rfl;have hcz52_2:w50.cell? ⟨gb355,2,none⟩ = some (.slice none 0 0):=(blk_cell BK355.out 2).trans rfl;have hfz52_0:=blk_frozen BK355.out 0;have hfz52_1:=blk_frozen BK355.out 1;have hfz52_2:=blk_frozen BK355.out 2;obtain ⟨Ao53,co53,eo53⟩:=Kd.R_slice HO353.out;subst eo53)|((with_reducible refine gate_callee (f:=13) rfl ?_);refine goesL_ (some 49) rfl rfl Try.func13 (by kernel_rfl) rfl #[] rfl (by (try simp only [mA_,mC_,mN_]);first|done|rfl|(simp only [dL_,kL_];rfl)) ?_;(with_reducible refine (w18_awake.calls kj7  t366 _ A47.out).mono ?_);rintro e w54 ⟨rfl,hb⟩;refine ⟨_,rfl,?_⟩;have n0_:=Aside0.mk (Kd.R_below (by (with_reducible repeat (first|apply Kd.R_alloc|apply Kd.R_drewN|apply Kd.R_drew));exact (Kd.R_mono (Kd.R_far (p:=⟨gb355,2,none⟩) (Kd.R_far (p:=⟨gb355,1,none⟩) (Kd.R_far (p:=⟨gb355,0,none⟩) (Kd.R_types HO353.out BK355.out (by decide)) (fun _ hk=>hk.2) (.int .i64 t349)) (fun _ hk=>hk.2) (.int .i64 t350)) (fun _ hk=>hk.2) (.slice Ao53 t351.length co53)) (fun _ h_=>h_.1))) hb);have n1_:=Aside0.mk (blk_below (g:=gb347) (o:=.cells #[.int .i64 a4_0,.int .i64 a4_1,.int .i64 a4_2,.int .i64 a4_3] 31 (0,0)) (by (with_reducible repeat first|apply bN_|apply bD_|apply bA_);refine blk_far ?_ NB347_355.out _;(with_reducible repeat first|apply bN_|apply bD_|apply bA_);refine blk_far ?_ NB347_355.out _;(with_reducible repeat first|apply bN_|apply bD_|apply bA_);refine blk_far ?_ NB347_355.out _;(with_reducible repeat first|apply bN_|apply bD_|apply bA_);exact BK347.out) hb);have n2_:=Aside0.mk (blk_below (g:=gb355) (o:=.cells #[.int .i64 t349,.int .i64 t350,.slice Ao53 t351.length co53] 34 (0,0)) (by (with_reducible repeat first|apply bN_|apply bD_|apply bA_);refine blk_put (cs:=#[.int .i64 t349,.int .i64 t350,.slice none 0 0]) ?_ 2 _ rfl;(with_reducible repeat first|apply bN_|apply bD_|apply bA_);refine blk_put (cs:=#[.int .i64 t349,.int .i64 0,.slice none 0 0]) ?_ 1 _ rfl;(with_reducible repeat first|apply bN_|apply bD_|apply bA_);refine blk_put (cs:=#[.int .i64 0,.int .i64 0,.slice none 0 0]) ?_ 0 _ rfl;(with_reducible repeat first|apply bN_|apply bD_|apply bA_);exact BK355.out) hb);have n3_:=Aside0.mk (below_step (by repeat first|(with_reducible first|exact HB.out|apply lA_|apply lN_|apply lD_|refine lS_ ?_ GE347.out|refine lS_ ?_ GE355.out)|exact HB.out) hb);clear HO353;clear BK347;clear BK355;clear HB;have HO353:=n0_;have BK347:=n1_;have BK355:=n2_;have HB:=n3_;clear n0_ n1_ n2_ n3_;(try clear hb);(try clear hb2);(try clear hk);(try clear hi)))
   go_ret
   exact ⟨by first|rfl|(simp [errW_none,errW_some] <;> rfl)|(simp [*,errW_none,errW_some] <;> rfl),by repeat first|(with_reducible first|exact HB.out|apply lA_|apply lN_|apply lD_|refine lS_ ?_ GE347.out|refine lS_ ?_ GE355.out)|exact HB.out⟩

end Go.Proofs.Ytmlcobnidfkhfaa.Q
