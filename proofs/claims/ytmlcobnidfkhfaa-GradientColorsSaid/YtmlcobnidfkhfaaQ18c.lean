/- Each Go function of the law as a Lean function, with the proof that its call comes to just that, for every input; written by hp.py, a program of this session over the kit own print of the translation. -/
import Derived.Test.YtmlcobnidfkhfaaQ0
import Derived.Test.YtmlcobnidfkhfaaQ1
import Derived.Test.YtmlcobnidfkhfaaQ3
import Derived.Test.YtmlcobnidfkhfaaQ9
import Derived.Test.YtmlcobnidfkhfaaQ13
import Derived.Test.YtmlcobnidfkhfaaQ17
namespace Go.Proofs.Ytmlcobnidfkhfaa.Q
open Go.RowKit Go.Proofs.YtmlcobnidfkhfaaW.PrintWords Go.Proofs.YtmlcobnidfkhfaaW.PrintLast Go.Proofs.YtmlcobnidfkhfaaW.PrintMore
attribute [local go_sem] max2_int min2_int max_two min_two max_three min_three max_four min_four   -- for this text's walks alone
set_option linter.unusedVariables false
set_option linter.unusedSimpArgs false
open Go.Proofs.Ytmlcobnidfkhfaa.Clo Go.Proofs.Ytmlcobnidfkhfaa.Mk0

attribute [local go_sem high] eqA38
/-! ### w18_GradientColors: function 5 -/
def w18_GradientColors.f (k:Nat) (a0:Int) (l1:List Int) (a2:Int) (l3:List (S47)) (a4:Int):Option (Bool):=(gr_Check.f k a0 l1 a2 l3).bind fun t405=>((r18_Check.f k a0 l1 a2 l3).bind fun t406=>(if t405 = t406 then ((gr_Color.f k l3 a4).bind fun bt407=>((r18_Color.f k l3 a4).bind fun bt411=>(if (bt407.1 == bt411.1&&(bt407.2.1 == bt411.2.1&&(bt407.2.2.1 == bt411.2.2.1&&(bt407.2.2.2 == bt411.2.2.2)))) = true then ((w18_awake.f k).bind fun t415=>(some t415)) else (none)))) else (none)))
theorem w18_GradientColors.mono:∀ a0 a1 a2 a3 a4 k,LeO (w18_GradientColors.f k a0 a1 a2 a3 a4) (w18_GradientColors.f (k + 1) a0 a1 a2 a3 a4):=by
 intro a0 a1 a2 a3 a4 k
 unfold w18_GradientColors.f
 repeat' first
   | (with_reducible exact gr_Check.mono _ _ _ _ _)
   | (with_reducible exact gr_Color.mono _ _ _)
   | (with_reducible exact w18_awake.mono _)
   | (with_reducible exact r18_Check.mono _ _ _ _ _)
   | (with_reducible exact r18_Color.mono _ _ _)
   | (with_reducible exact LeO.refl _)
   | (with_reducible exact LeO.none _)
   | (with_reducible refine LeO.ite ?_ ?_)
   | (with_reducible refine LeO.bind ?_ (fun _=>?_))
set_option maxHeartbeats 8000000 in
set_option maxRecDepth 100000 in
theorem w18_GradientColors.calls (k:Nat) (a0:Int) (A1:Option Addr) (c1:Nat) (l1:List Int) (a2:Int) (A3:Option Addr) (c3:Nat) (l3:List (S47)) (a4:Int) (r:Bool) (w:World) (hr1:Kd.C (Kd.int .i64) w A1 l1.length l1) (hc1:l1.length≤c1) (hr3:Kd.C k47 w A3 l3.length l3) (hc3:l3.length≤c3) (h:w18_GradientColors.f k a0 l1 a2 l3 a4 = some r) :
  Calls Try.prog 5 #[.int .i64 a0,.slice A1 l1.length c1,.int .i64 a2,.slice A3 l3.length c3,.int .i64 a4] w fun e w'=>e = .returned (.bool r)∧Below w.heap.size w w':=by
 have HR1:=Aside0.mk hr1;have HC1:=Aside0.mk hc1;clear hr1 hc1;have HR3:=Aside0.mk hr3;have HC3:=Aside0.mk hc3;clear hr3 hc3;have HB:=Aside0.mk (Below.refl w.heap.size w)
 have H:((gr_Check.f k a0 l1 a2 l3).bind fun t405=>((r18_Check.f k a0 l1 a2 l3).bind fun t406=>(if t405 = t406 then ((gr_Color.f k l3 a4).bind fun bt407=>((r18_Color.f k l3 a4).bind fun bt411=>(if (bt407.1 == bt411.1&&(bt407.2.1 == bt411.2.1&&(bt407.2.2.1 == bt411.2.2.1&&(bt407.2.2.2 == bt411.2.2.2)))) = true then ((w18_awake.f k).bind fun t415=>(some t415)) else (none)))) else (none)))) = some r:=h
 clear h;replace H:=Option.bind_eq_some_iff.mp H;obtain ⟨t405,A60,H⟩:=H
 replace H:((r18_Check.f k a0 l1 a2 l3).bind fun t406=>(if t405 = t406 then ((gr_Color.f k l3 a4).bind fun bt407=>((r18_Color.f k l3 a4).bind fun bt411=>(if (bt407.1 == bt411.1&&(bt407.2.1 == bt411.2.1&&(bt407.2.2.1 == bt411.2.2.1&&(bt407.2.2.2 == bt411.2.2.2)))) = true then ((w18_awake.f k).bind fun t415=>(some t415)) else (none)))) else (none))) = some r:=H
 have A6:=Aside0.mk A60;clear A60;replace H:=Option.bind_eq_some_iff.mp H;obtain ⟨t406,A70,H⟩:=H
 replace H:(if t405 = t406 then ((gr_Color.f k l3 a4).bind fun bt407=>((r18_Color.f k l3 a4).bind fun bt411=>(if (bt407.1 == bt411.1&&(bt407.2.1 == bt411.2.1&&(bt407.2.2.1 == bt411.2.2.1&&(bt407.2.2.2 == bt411.2.2.2)))) = true then ((w18_awake.f k).bind fun t415=>(some t415)) else (none)))) else (none)) = some r:=H
 have A7:=Aside0.mk A70;clear A70;by_cases c8:t405 = t406
 ·rw [if_pos c8] at H
  have c8b0:=beq_iff_eq.mpr c8;have c8b1:=bne_eq_false_iff_eq.mpr c8;clear c8;replace H:=Option.bind_eq_some_iff.mp H;obtain ⟨⟨t407,t408,t409,t410⟩,A90,H⟩:=H
  replace H:((r18_Color.f k l3 a4).bind fun bt411=>(if (t407 == bt411.1&&(t408 == bt411.2.1&&(t409 == bt411.2.2.1&&(t410 == bt411.2.2.2)))) = true then ((w18_awake.f k).bind fun t415=>(some t415)) else (none))) = some r:=H
  have A9:=Aside0.mk A90;clear A90;replace H:=Option.bind_eq_some_iff.mp H;obtain ⟨⟨t411,t412,t413,t414⟩,A100,H⟩:=H
  replace H:(if (t407 == t411&&(t408 == t412&&(t409 == t413&&(t410 == t414)))) = true then ((w18_awake.f k).bind fun t415=>(some t415)) else (none)) = some r:=H
  have A10:=Aside0.mk A100;clear A100;by_cases c11:(t407 == t411&&(t408 == t412&&(t409 == t413&&(t410 == t414)))) = true
  ·rw [if_pos c11] at H
   have c11b0:(t407 == t411&&(t408 == t412&&(t409 == t413&&(t410 == t414)))) = true:=c11
   (try (have c11b1:decide (t407 = t411&&(t408 == t412&&(t409 == t413&&(t410 == t414)))) = true:=by simpa using c11))
   (try (have c11b2:(t407 == t411&&(t408 == t412&&(t409 == t413&&(t410 == t414)))) = true:=by simpa using c11))
   clear c11;replace H:=Option.bind_eq_some_iff.mp H;obtain ⟨t415,A120,H⟩:=H;replace H:(some t415) = some r:=H;have A12:=Aside0.mk A120;clear A120;obtain rfl:=Option.some.inj H
   go_enter Try.func5,Try.ntmps5
   go_wp2_with (first|((with_reducible refine gate_callee (f:=16) rfl ?_);refine goesL_ (some 15) rfl rfl Try.func16 (by kernel_rfl) rfl #[.int .i64 a0,.slice A1 l1.length c1,.int .i64 a2,.slice A3 l3.length c3] rfl (by (try simp only [mA_,mC_,mN_]);first|done|rfl|(simp only [dL_,kL_];rfl)) ?_;(with_reducible refine (gr_Check.calls k a0 _ _ l1 a2 _ _ l3 t405 _ ?side1 ?side2 ?side3 ?side4 A6.out).mono ?_);(case side1=>repeat (first|exact HR1.out|(with_reducible refine Kd.C_alloc ?_ _)|(with_reducible refine Kd.C_drewN ?_ _)|(with_reducible refine Kd.C_drew ?_)));(case side2=>exact HC1.out);(case side3=>repeat (first|exact HR3.out|(with_reducible refine Kd.C_alloc ?_ _)|(with_reducible refine Kd.C_drewN ?_ _)|(with_reducible refine Kd.C_drew ?_)));(case side4=>exact HC3.out);rintro e w13 ⟨rfl,hb⟩;refine ⟨_,rfl,?_⟩;have n0_:=Aside0.mk (below_step (by repeat first|(with_reducible first|exact HB.out|apply lA_|apply lN_|apply lD_)|exact HB.out) hb);clear HB;have HB:=n0_;clear n0_;(try clear hb);(try clear hb2);(try clear hk);(try clear hi))|((with_reducible refine gate_callee (f:=11) rfl ?_);refine goesL_ (some 20) rfl rfl Try.func11 (by kernel_rfl) rfl #[.int .i64 a0,.slice A1 l1.length c1,.int .i64 a2,.slice A3 l3.length c3] rfl (by (try simp only [mA_,mC_,mN_]);first|done|rfl|(simp only [dL_,kL_];rfl)) ?_;(with_reducible refine (r18_Check.calls k a0 _ _ l1 a2 _ _ l3 t406 _ ?side1 ?side2 ?side3 ?side4 A7.out).mono ?_);(case side1=>repeat (first|exact (Kd.C_below HR1.out HB.out)|(with_reducible refine Kd.C_alloc ?_ _)|(with_reducible refine Kd.C_drewN ?_ _)|(with_reducible refine Kd.C_drew ?_)));(case side2=>exact HC1.out);(case side3=>repeat (first|exact (Kd.C_below HR3.out HB.out)|(with_reducible refine Kd.C_alloc ?_ _)|(with_reducible refine Kd.C_drewN ?_ _)|(with_reducible refine Kd.C_drew ?_)));(case side4=>exact HC3.out);rintro e w14 ⟨rfl,hb⟩;refine ⟨_,rfl,?_⟩;have n0_:=Aside0.mk (below_step (by repeat first|(with_reducible first|exact HB.out|apply lA_|apply lN_|apply lD_)|exact HB.out) hb);clear HB;have HB:=n0_;clear n0_;(try clear hb);(try clear hb2);(try clear hk);(try clear hi))|(go_at_call 17;(with_reducible refine (gr_Color.calls k _ _ l3 a4 t407 t408 t409 t410 _ ?side1 ?side2 A9.out).mono ?_);(case side1=>repeat (first|exact (Kd.C_below HR3.out HB.out)|(with_reducible refine Kd.C_alloc ?_ _)|(with_reducible refine Kd.C_drewN ?_ _)|(with_reducible refine Kd.C_drew ?_)));(case side2=>exact HC3.out);rintro e w15 ⟨rfl,hb⟩;have n0_:=Aside0.mk (below_step (by repeat first|(with_reducible first|exact HB.out|apply lA_|apply lN_|apply lD_)|exact HB.out) hb);clear HB;have HB:=n0_;clear n0_;(try clear hb);(try clear hb2);(try clear hk);(try clear hi))|(go_at_call 18;(with_reducible refine (r18_Color.calls k _ _ l3 a4 t411 t412 t413 t414 _ ?side1 ?side2 A10.out).mono ?_);(case side1=>repeat (first|exact (Kd.C_below HR3.out HB.out)|(with_reducible refine Kd.C_alloc ?_ _)|(with_reducible refine Kd.C_drewN ?_ _)|(with_reducible refine Kd.C_drew ?_)));(case side2=>exact HC3.out);rintro e w16 ⟨rfl,hb⟩;have n0_:=Aside0.mk (below_step (by repeat first|(with_reducible first|exact HB.out|apply lA_|apply lN_|apply lD_)|exact HB.out) hb);clear HB;have HB:=n0_;clear n0_;(try clear hb);(try clear hb2);(try clear hk);(try clear hi))|(go_at_call 13;(with_reducible refine (w18_awake.calls k  t415 _ A12.out).mono ?_);rintro e w17 ⟨rfl,hb⟩;have n0_:=Aside0.mk (below_step (by repeat first|(with_reducible first|exact HB.out|apply lA_|apply lN_|apply lD_)|exact HB.out) hb);clear HB;have HB:=n0_;clear n0_;(try clear hb);(try clear hb2);(try clear hk);(try clear hi)))
   go_ret
   exact ⟨by first|rfl|(simp [errW_none,errW_some] <;> rfl)|(simp [*,errW_none,errW_some] <;> rfl),by repeat first|(with_reducible first|exact HB.out|apply lA_|apply lN_|apply lD_)|exact HB.out⟩
  rw [if_neg c11] at H
  exact absurd H (by simp)
 rw [if_neg c8] at H
 exact absurd H (by simp)

end Go.Proofs.Ytmlcobnidfkhfaa.Q
