/- Each Go function of the law as a Lean function, with the proof that its call comes to just that, for every input; written by hp.py, a program of this session over the kit own print of the translation. -/
import Derived.Test.YtmlcobnidfkhfaaQ0
import Derived.Test.YtmlcobnidfkhfaaQ2
import Derived.Test.YtmlcobnidfkhfaaQ3
import Derived.Test.YtmlcobnidfkhfaaQ18
import Derived.Test.YtmlcobnidfkhfaaQ19
namespace Go.Proofs.Ytmlcobnidfkhfaa.Q
open Go.RowKit Go.Proofs.YtmlcobnidfkhfaaW.PrintWords Go.Proofs.YtmlcobnidfkhfaaW.PrintLast Go.Proofs.YtmlcobnidfkhfaaW.PrintMore
attribute [local go_sem] max2_int min2_int max_two min_two max_three min_three max_four min_four   -- for this text's walks alone
set_option linter.unusedVariables false
set_option linter.unusedSimpArgs false
open Go.Proofs.Ytmlcobnidfkhfaa.Clo Go.Proofs.Ytmlcobnidfkhfaa.Mk0

/-! ### r18_Place: function 19 -/
def r18_Place.j0:Nat→Int→List Int→Int→Int→Int→Bool→Option (Int)
 | 0,_,_,_,_,_,_=>none
 | k+1,x0,x1,x2,x3,x4,x23=>if x23=true then (some 0) else ((r01_Clamp.f x3 (-1048576) 1048576).bind fun t456=>((r01_Clamp.f x4 (-1048576) 1048576).bind fun t457=>((r18_plain.f k x0 x1 t456 t457).bind fun t458=>(if x2=0 then ((r06_U.f t458).bind fun t459=>(some t459)) else (if x2=1 then ((r18_mod.f k t458 65536).bind fun t460=>(some t460)) else ((r18_mod.f k t458 131072).bind fun t461=>(if t461>65535 then (some (wrap64 (131071-t461))) else (some t461))))))))
def r18_Place.f (k:Nat) (a0:Int) (l1:List Int) (a2:Int) (a3:Int) (a4:Int):Option (Int):=(r18_head.f k a0 l1 a2).bind fun t454=>(if t454=0 then ((r18_numbers.f k a0 l1).bind fun t455=>(r18_Place.j0 k a0 l1 a2 a3 a4 (t455 != 0))) else (r18_Place.j0 k a0 l1 a2 a3 a4 true))
theorem r18_Place.mono_l:∀ k,(∀ y0 y1 y2 y3 y4 y5,LeO (r18_Place.j0 k y0 y1 y2 y3 y4 y5) (r18_Place.j0 (k+1) y0 y1 y2 y3 y4 y5))
 | 0=>fun _ _ _ _ _ _ r h=>by simp [r18_Place.j0] at h
 | k+1=>by
  have ih0:=r18_Place.mono_l k
  ·intro y0 y1 y2 y3 y4 y5
   unfold r18_Place.j0
   repeat' first
   | (with_reducible exact ih0 _ _ _ _ _ _)
   | (with_reducible exact r18_head.mono _ _ _ _)
   | (with_reducible exact r18_mod.mono _ _ _)
   | (with_reducible exact r18_numbers.mono _ _ _)
   | (with_reducible exact r18_plain.mono _ _ _ _ _)
   | (with_reducible exact LeO.refl _)
   | (with_reducible exact LeO.none _)
   | (with_reducible refine LeO.ite ?_ ?_)
   | (with_reducible refine LeO.bind ?_ (fun _=>?_))
theorem r18_Place.mono:∀ a0 a1 a2 a3 a4 k,LeO (r18_Place.f k a0 a1 a2 a3 a4) (r18_Place.f (k+1) a0 a1 a2 a3 a4):=by
 intro a0 a1 a2 a3 a4 k;have ih0:=r18_Place.mono_l k
 unfold r18_Place.f
 repeat' first
   | (with_reducible exact ih0 _ _ _ _ _ _)
   | (with_reducible exact r18_head.mono _ _ _ _)
   | (with_reducible exact r18_mod.mono _ _ _)
   | (with_reducible exact r18_numbers.mono _ _ _)
   | (with_reducible exact r18_plain.mono _ _ _ _ _)
   | (with_reducible exact LeO.refl _)
   | (with_reducible exact LeO.none _)
   | (with_reducible refine LeO.ite ?_ ?_)
   | (with_reducible refine LeO.bind ?_ (fun _=>?_))
set_option maxHeartbeats 8000000 in
set_option maxRecDepth 100000 in
theorem r18_Place.calls (k:Nat) (a0:Int) (A1:Option Addr) (c1:Nat) (l1:List Int) (a2:Int) (a3:Int) (a4:Int) (r:Int) (w:World) (hr1:Kd.C (Kd.int .i64) w A1 l1.length l1) (hc1:l1.length≤c1) (h:r18_Place.f k a0 l1 a2 a3 a4=some r) :
  Calls Try.prog 19 #[.int .i64 a0,.slice A1 l1.length c1,.int .i64 a2,.int .i64 a3,.int .i64 a4] w fun e w'=>e = .returned (.int .i64 r)∧Below w.heap.size w w':=by
 have HR1:=Aside0.mk hr1;have HC1:=Aside0.mk hc1;clear hr1 hc1;have HB:=Aside0.mk (Below.refl w.heap.size w)
 have H:((r18_head.f k a0 l1 a2).bind fun t454=>(if t454=0 then ((r18_numbers.f k a0 l1).bind fun t455=>(r18_Place.j0 k a0 l1 a2 a3 a4 (t455 != 0))) else (r18_Place.j0 k a0 l1 a2 a3 a4 true)))=some r:=h
 clear h;have HC6:=Aside0.mk H;clear H
 go_enter Try.func19,Try.ntmps19
 go_upto_region 1 with (fail)
 go_cut [23] (fun v23 wc=>∃ (kq:Nat) (x23_5:Bool),v23 = .bool x23_5∧Aside0 (r18_Place.j0 kq a0 l1 a2 a3 a4 x23_5=some r)∧Aside0 (kq≤k)∧Aside0 (Below w.heap.size w wc))
 case first =>
  have H:=HC6.out;clear HC6;replace H:=Option.bind_eq_some_iff.mp H;obtain ⟨t454,A70,H⟩:=H
  replace H:(if t454=0 then ((r18_numbers.f k a0 l1).bind fun t455=>(r18_Place.j0 k a0 l1 a2 a3 a4 (t455 != 0))) else (r18_Place.j0 k a0 l1 a2 a3 a4 true))=some r:=H
  have A7:=Aside0.mk A70;clear A70;by_cases c8:t454=0
  ·rw [if_pos c8] at H
   have c8b0:=beq_iff_eq.mpr c8;have c8b1:=bne_eq_false_iff_eq.mpr c8;clear c8
   (first|rw [c8b0]|(simp only [i64_w,i32_w];rw [c8b0])|skip)
   replace H:=Option.bind_eq_some_iff.mp H;obtain ⟨t455,A90,H⟩:=H;replace H:(r18_Place.j0 k a0 l1 a2 a3 a4 (t455 != 0))=some r:=H;have A9:=Aside0.mk A90;clear A90;have H':=Aside0.mk H;clear H
   go_wp2_with (first|((with_reducible refine gate_callee (f:=23) rfl ?_);refine goesL_ (some 16) rfl rfl Try.func23 (by kernel_rfl) rfl #[.int .i64 a0,.slice A1 l1.length c1,.int .i64 a2] rfl (by (try simp only [mA_,mC_,mN_]);first|done|rfl|(simp only [dL_,kL_];rfl)) ?_;(with_reducible refine (r18_head.calls k a0 _ _ l1 a2 t454 _ ?side1 ?side2 A7.out).mono ?_);(case side1=>repeat (first|exact (Kd.C_below HR1.out HB.out)|(with_reducible refine Kd.C_alloc ?_ _)|(with_reducible refine Kd.C_drewN ?_ _)|(with_reducible refine Kd.C_drew ?_)));(case side2=>exact HC1.out);rintro e w' ⟨rfl,⟨nd,rfl⟩⟩;refine ⟨_,rfl,?_⟩)|(go_at_call 24;(with_reducible refine (r18_numbers.calls k a0 _ _ l1 t455 _ ?side1 ?side2 A9.out).mono ?_);(case side1=>repeat (first|exact (Kd.C_below HR1.out (by repeat first|(with_reducible first|exact HB.out|apply lA_|apply lN_|apply lD_)|exact HB.out))|(with_reducible refine Kd.C_alloc ?_ _)|(with_reducible refine Kd.C_drewN ?_ _)|(with_reducible refine Kd.C_drew ?_)));(case side2=>exact HC1.out);rintro e w' ⟨rfl,⟨nd,rfl⟩⟩))
   go_meet
   case rel=>exact ⟨_,((t455 != 0)),(by first|rfl|(simp;done)|(simp [*];done)),H',⟨by first|omega|exact Nat.le_refl _⟩,⟨by repeat first|(with_reducible first|exact HB.out|apply lA_|apply lN_|apply lD_)|exact HB.out⟩⟩
  rw [if_neg c8] at H;have c8b0:(t454==0)=false:=beq_eq_false_iff_ne.mpr c8;have c8b1:(t454 != 0)=true:=bne_iff_ne.mpr c8
  (first|rw [c8b0]|(simp only [i64_w,i32_w];rw [c8b0])|skip)
  have H':=Aside0.mk H;clear H
  go_wp2_with (first|((with_reducible refine gate_callee (f:=23) rfl ?_);refine goesL_ (some 16) rfl rfl Try.func23 (by kernel_rfl) rfl #[.int .i64 a0,.slice A1 l1.length c1,.int .i64 a2] rfl (by (try simp only [mA_,mC_,mN_]);first|done|rfl|(simp only [dL_,kL_];rfl)) ?_;(with_reducible refine (r18_head.calls k a0 _ _ l1 a2 t454 _ ?side1 ?side2 A7.out).mono ?_);(case side1=>repeat (first|exact (Kd.C_below HR1.out HB.out)|(with_reducible refine Kd.C_alloc ?_ _)|(with_reducible refine Kd.C_drewN ?_ _)|(with_reducible refine Kd.C_drew ?_)));(case side2=>exact HC1.out);rintro e w' ⟨rfl,⟨nd,rfl⟩⟩;refine ⟨_,rfl,?_⟩))
  go_meet
  case rel=>exact ⟨_,(true),(by first|rfl|(simp;done)|(simp [*];done)),H',⟨by first|omega|exact Nat.le_refl _⟩,⟨by repeat first|(with_reducible first|exact HB.out|apply lA_|apply lN_|apply lD_)|exact HB.out⟩⟩
 case rest =>
  clear HC6;obtain ⟨kq,x23_5,rfl,HA,HJ5,HB⟩:=hcut
  cases kq with
  | zero=>exact absurd HA.out (by simp [r18_Place.j0])
  | succ kj5 =>
   have H:=HA.out;clear HA;simp only [r18_Place.j0] at H;by_cases c10:x23_5=true
   ·subst c10
    have H1:(some 0)=some r:=by rw [if_pos rfl] at H;exact H
    clear H;have H:=H1;clear H1;obtain rfl:=Option.some.inj H
    go_wp2
    go_ret
    exact ⟨by first|rfl|(simp [errW_none,errW_some] <;> rfl)|(simp [*,errW_none,errW_some] <;> rfl),by repeat first|(with_reducible first|exact HB.out|apply lA_|apply lN_|apply lD_)|exact HB.out⟩
   replace c10:=Bool.eq_false_iff.mpr c10;subst c10
   have H1:((r01_Clamp.f a3 (-1048576) 1048576).bind fun t456=>((r01_Clamp.f a4 (-1048576) 1048576).bind fun t457=>((r18_plain.f kj5 a0 l1 t456 t457).bind fun t458=>(if a2=0 then ((r06_U.f t458).bind fun t459=>(some t459)) else (if a2=1 then ((r18_mod.f kj5 t458 65536).bind fun t460=>(some t460)) else ((r18_mod.f kj5 t458 131072).bind fun t461=>(if t461>65535 then (some (wrap64 (131071-t461))) else (some t461))))))))=some r:=by rw [if_neg (show ¬ (false=true) by decide)] at H;exact H
   clear H;have H:=H1;clear H1;replace H:=Option.bind_eq_some_iff.mp H;obtain ⟨t456,A110,H⟩:=H
   replace H:((r01_Clamp.f a4 (-1048576) 1048576).bind fun t457=>((r18_plain.f kj5 a0 l1 t456 t457).bind fun t458=>(if a2=0 then ((r06_U.f t458).bind fun t459=>(some t459)) else (if a2=1 then ((r18_mod.f kj5 t458 65536).bind fun t460=>(some t460)) else ((r18_mod.f kj5 t458 131072).bind fun t461=>(if t461>65535 then (some (wrap64 (131071-t461))) else (some t461)))))))=some r:=H
   have A11:=Aside0.mk A110;clear A110;replace H:=Option.bind_eq_some_iff.mp H;obtain ⟨t457,A120,H⟩:=H
   replace H:((r18_plain.f kj5 a0 l1 t456 t457).bind fun t458=>(if a2=0 then ((r06_U.f t458).bind fun t459=>(some t459)) else (if a2=1 then ((r18_mod.f kj5 t458 65536).bind fun t460=>(some t460)) else ((r18_mod.f kj5 t458 131072).bind fun t461=>(if t461>65535 then (some (wrap64 (131071-t461))) else (some t461))))))=some r:=H
   have A12:=Aside0.mk A120;clear A120;replace H:=Option.bind_eq_some_iff.mp H;obtain ⟨t458,A130,H⟩:=H
   replace H:(if a2=0 then ((r06_U.f t458).bind fun t459=>(some t459)) else (if a2=1 then ((r18_mod.f kj5 t458 65536).bind fun t460=>(some t460)) else ((r18_mod.f kj5 t458 131072).bind fun t461=>(if t461>65535 then (some (wrap64 (131071-t461))) else (some t461)))))=some r:=H
   have A13:=Aside0.mk A130;clear A130;by_cases c14:a2=0
   ·rw [if_pos c14] at H
    have c14b0:=beq_iff_eq.mpr c14;have c14b1:=bne_eq_false_iff_eq.mpr c14;clear c14;replace H:=Option.bind_eq_some_iff.mp H;obtain ⟨t459,A150,H⟩:=H;replace H:(some t459)=some r:=H;have A15:=Aside0.mk A150;clear A150;obtain rfl:=Option.some.inj H
    go_wp2_with (first|((with_reducible refine gate_callee (f:=36) rfl ?_);refine goesL_ (some 27) rfl rfl Try.func36 (by kernel_rfl) rfl #[.int .i64 a3,.int .i64 (-1048576),.int .i64 1048576] rfl (by (try simp only [mA_,mC_,mN_]);first|done|rfl|(simp only [dL_,kL_];rfl)) ?_;(with_reducible refine (r01_Clamp.calls a3 (-1048576) 1048576 t456 _ A11.out).mono ?_);rintro e w16 ⟨rfl,hb⟩;refine ⟨_,rfl,?_⟩;have n0_:=Aside0.mk (below_step (by repeat first|(with_reducible first|exact HB.out|apply lA_|apply lN_|apply lD_)|exact HB.out) hb);clear HB;have HB:=n0_;clear n0_;(try clear hb);(try clear hb2);(try clear hk);(try clear hi))|((with_reducible refine gate_callee (f:=36) rfl ?_);refine goesL_ (some 29) rfl rfl Try.func36 (by kernel_rfl) rfl #[.int .i64 a4,.int .i64 (-1048576),.int .i64 1048576] rfl (by (try simp only [mA_,mC_,mN_]);first|done|rfl|(simp only [dL_,kL_];rfl)) ?_;(with_reducible refine (r01_Clamp.calls a4 (-1048576) 1048576 t457 _ A12.out).mono ?_);rintro e w17 ⟨rfl,hb⟩;refine ⟨_,rfl,?_⟩;have n0_:=Aside0.mk (below_step (by repeat first|(with_reducible first|exact HB.out|apply lA_|apply lN_|apply lD_)|exact HB.out) hb);clear HB;have HB:=n0_;clear n0_;(try clear hb);(try clear hb2);(try clear hk);(try clear hi))|((with_reducible refine gate_callee (f:=35) rfl ?_);refine goesL_ (some 30) rfl rfl Try.func35 (by kernel_rfl) rfl #[.int .i64 a0,.slice A1 l1.length c1,.int .i64 t456,.int .i64 t457] rfl (by (try simp only [mA_,mC_,mN_]);first|done|rfl|(simp only [dL_,kL_];rfl)) ?_;(with_reducible refine (r18_plain.calls kj5 a0 _ _ l1 t456 t457 t458 _ ?side1 ?side2 A13.out).mono ?_);(case side1=>repeat (first|exact (Kd.C_below HR1.out HB.out)|(with_reducible refine Kd.C_alloc ?_ _)|(with_reducible refine Kd.C_drewN ?_ _)|(with_reducible refine Kd.C_drew ?_)));(case side2=>exact HC1.out);rintro e w' ⟨rfl,⟨nd,rfl⟩⟩;refine ⟨_,rfl,?_⟩)|((with_reducible refine gate_callee (f:=32) rfl ?_);refine goesL_ (some 34) rfl rfl Try.func32 (by kernel_rfl) rfl #[.int .i64 t458] rfl (by (try simp only [mA_,mC_,mN_]);first|done|rfl|(simp only [dL_,kL_];rfl)) ?_;(with_reducible refine (r06_U.calls t458 t459 _ A15.out).mono ?_);rintro e w18 ⟨rfl,hb⟩;refine ⟨_,rfl,?_⟩;have n0_:=Aside0.mk (below_step (by repeat first|(with_reducible first|exact HB.out|apply lA_|apply lN_|apply lD_)|exact HB.out) hb);clear HB;have HB:=n0_;clear n0_;(try clear hb);(try clear hb2);(try clear hk);(try clear hi)))
    go_ret
    exact ⟨by first|rfl|(simp [errW_none,errW_some] <;> rfl)|(simp [*,errW_none,errW_some] <;> rfl),by repeat first|(with_reducible first|exact HB.out|apply lA_|apply lN_|apply lD_)|exact HB.out⟩
   rw [if_neg c14] at H;have c14b0:(a2==0)=false:=beq_eq_false_iff_ne.mpr c14;have c14b1:(a2 != 0)=true:=bne_iff_ne.mpr c14;by_cases c19:a2=1
   ·rw [if_pos c19] at H
    have c19b0:=beq_iff_eq.mpr c19;have c19b1:=bne_eq_false_iff_eq.mpr c19;clear c19;replace H:=Option.bind_eq_some_iff.mp H;obtain ⟨t460,A200,H⟩:=H;replace H:(some t460)=some r:=H;have A20:=Aside0.mk A200;clear A200;obtain rfl:=Option.some.inj H
    go_wp2_with (first|((with_reducible refine gate_callee (f:=36) rfl ?_);refine goesL_ (some 27) rfl rfl Try.func36 (by kernel_rfl) rfl #[.int .i64 a3,.int .i64 (-1048576),.int .i64 1048576] rfl (by (try simp only [mA_,mC_,mN_]);first|done|rfl|(simp only [dL_,kL_];rfl)) ?_;(with_reducible refine (r01_Clamp.calls a3 (-1048576) 1048576 t456 _ A11.out).mono ?_);rintro e w21 ⟨rfl,hb⟩;refine ⟨_,rfl,?_⟩;have n0_:=Aside0.mk (below_step (by repeat first|(with_reducible first|exact HB.out|apply lA_|apply lN_|apply lD_)|exact HB.out) hb);clear HB;have HB:=n0_;clear n0_;(try clear hb);(try clear hb2);(try clear hk);(try clear hi))|((with_reducible refine gate_callee (f:=36) rfl ?_);refine goesL_ (some 29) rfl rfl Try.func36 (by kernel_rfl) rfl #[.int .i64 a4,.int .i64 (-1048576),.int .i64 1048576] rfl (by (try simp only [mA_,mC_,mN_]);first|done|rfl|(simp only [dL_,kL_];rfl)) ?_;(with_reducible refine (r01_Clamp.calls a4 (-1048576) 1048576 t457 _ A12.out).mono ?_);rintro e w22 ⟨rfl,hb⟩;refine ⟨_,rfl,?_⟩;have n0_:=Aside0.mk (below_step (by repeat first|(with_reducible first|exact HB.out|apply lA_|apply lN_|apply lD_)|exact HB.out) hb);clear HB;have HB:=n0_;clear n0_;(try clear hb);(try clear hb2);(try clear hk);(try clear hi))|((with_reducible refine gate_callee (f:=35) rfl ?_);refine goesL_ (some 30) rfl rfl Try.func35 (by kernel_rfl) rfl #[.int .i64 a0,.slice A1 l1.length c1,.int .i64 t456,.int .i64 t457] rfl (by (try simp only [mA_,mC_,mN_]);first|done|rfl|(simp only [dL_,kL_];rfl)) ?_;(with_reducible refine (r18_plain.calls kj5 a0 _ _ l1 t456 t457 t458 _ ?side1 ?side2 A13.out).mono ?_);(case side1=>repeat (first|exact (Kd.C_below HR1.out HB.out)|(with_reducible refine Kd.C_alloc ?_ _)|(with_reducible refine Kd.C_drewN ?_ _)|(with_reducible refine Kd.C_drew ?_)));(case side2=>exact HC1.out);rintro e w' ⟨rfl,⟨nd,rfl⟩⟩;refine ⟨_,rfl,?_⟩)|((with_reducible refine gate_callee (f:=37) rfl ?_);refine goesL_ (some 38) rfl rfl Try.func37 (by kernel_rfl) rfl #[.int .i64 t458,.int .i64 65536] rfl (by (try simp only [mA_,mC_,mN_]);first|done|rfl|(simp only [dL_,kL_];rfl)) ?_;(with_reducible refine (r18_mod.calls kj5 t458 65536 t460 _ A20.out).mono ?_);rintro e w' ⟨rfl,⟨nd,rfl⟩⟩;refine ⟨_,rfl,?_⟩))
    go_ret
    exact ⟨by first|rfl|(simp [errW_none,errW_some] <;> rfl)|(simp [*,errW_none,errW_some] <;> rfl),by repeat first|(with_reducible first|exact HB.out|apply lA_|apply lN_|apply lD_)|exact HB.out⟩
   rw [if_neg c19] at H;have c19b0:(a2==1)=false:=beq_eq_false_iff_ne.mpr c19;have c19b1:(a2 != 1)=true:=bne_iff_ne.mpr c19;replace H:=Option.bind_eq_some_iff.mp H;obtain ⟨t461,A230,H⟩:=H
   replace H:(if t461>65535 then (some (wrap64 (131071-t461))) else (some t461))=some r:=H
   have A23:=Aside0.mk A230;clear A230;by_cases c24:t461>65535
   ·rw [if_pos c24] at H
    have c24b0:=decide_eq_true c24;clear c24;obtain rfl:=Option.some.inj H
    go_wp2_with (first|((with_reducible refine gate_callee (f:=36) rfl ?_);refine goesL_ (some 27) rfl rfl Try.func36 (by kernel_rfl) rfl #[.int .i64 a3,.int .i64 (-1048576),.int .i64 1048576] rfl (by (try simp only [mA_,mC_,mN_]);first|done|rfl|(simp only [dL_,kL_];rfl)) ?_;(with_reducible refine (r01_Clamp.calls a3 (-1048576) 1048576 t456 _ A11.out).mono ?_);rintro e w25 ⟨rfl,hb⟩;refine ⟨_,rfl,?_⟩;have n0_:=Aside0.mk (below_step (by repeat first|(with_reducible first|exact HB.out|apply lA_|apply lN_|apply lD_)|exact HB.out) hb);clear HB;have HB:=n0_;clear n0_;(try clear hb);(try clear hb2);(try clear hk);(try clear hi))|((with_reducible refine gate_callee (f:=36) rfl ?_);refine goesL_ (some 29) rfl rfl Try.func36 (by kernel_rfl) rfl #[.int .i64 a4,.int .i64 (-1048576),.int .i64 1048576] rfl (by (try simp only [mA_,mC_,mN_]);first|done|rfl|(simp only [dL_,kL_];rfl)) ?_;(with_reducible refine (r01_Clamp.calls a4 (-1048576) 1048576 t457 _ A12.out).mono ?_);rintro e w26 ⟨rfl,hb⟩;refine ⟨_,rfl,?_⟩;have n0_:=Aside0.mk (below_step (by repeat first|(with_reducible first|exact HB.out|apply lA_|apply lN_|apply lD_)|exact HB.out) hb);clear HB;have HB:=n0_;clear n0_;(try clear hb);(try clear hb2);(try clear hk);(try clear hi))|((with_reducible refine gate_callee (f:=35) rfl ?_);refine goesL_ (some 30) rfl rfl Try.func35 (by kernel_rfl) rfl #[.int .i64 a0,.slice A1 l1.length c1,.int .i64 t456,.int .i64 t457] rfl (by (try simp only [mA_,mC_,mN_]);first|done|rfl|(simp only [dL_,kL_];rfl)) ?_;(with_reducible refine (r18_plain.calls kj5 a0 _ _ l1 t456 t457 t458 _ ?side1 ?side2 A13.out).mono ?_);(case side1=>repeat (first|exact (Kd.C_below HR1.out HB.out)|(with_reducible refine Kd.C_alloc ?_ _)|(with_reducible refine Kd.C_drewN ?_ _)|(with_reducible refine Kd.C_drew ?_)));(case side2=>exact HC1.out);rintro e w' ⟨rfl,⟨nd,rfl⟩⟩;refine ⟨_,rfl,?_⟩)|((with_reducible refine gate_callee (f:=37) rfl ?_);refine goesL_ (some 40) rfl rfl Try.func37 (by kernel_rfl) rfl #[.int .i64 t458,.int .i64 131072] rfl (by (try simp only [mA_,mC_,mN_]);first|done|rfl|(simp only [dL_,kL_];rfl)) ?_;(with_reducible refine (r18_mod.calls kj5 t458 131072 t461 _ A23.out).mono ?_);rintro e w' ⟨rfl,⟨nd,rfl⟩⟩;refine ⟨_,rfl,?_⟩))
    go_ret
    exact ⟨by first|rfl|(simp [errW_none,errW_some] <;> rfl)|(simp [*,errW_none,errW_some] <;> rfl),by repeat first|(with_reducible first|exact HB.out|apply lA_|apply lN_|apply lD_)|exact HB.out⟩
   rw [if_neg c24] at H;have c24b0:=decide_eq_false c24;clear c24;obtain rfl:=Option.some.inj H
   go_wp2_with (first|((with_reducible refine gate_callee (f:=36) rfl ?_);refine goesL_ (some 27) rfl rfl Try.func36 (by kernel_rfl) rfl #[.int .i64 a3,.int .i64 (-1048576),.int .i64 1048576] rfl (by (try simp only [mA_,mC_,mN_]);first|done|rfl|(simp only [dL_,kL_];rfl)) ?_;(with_reducible refine (r01_Clamp.calls a3 (-1048576) 1048576 t456 _ A11.out).mono ?_);rintro e w27 ⟨rfl,hb⟩;refine ⟨_,rfl,?_⟩;have n0_:=Aside0.mk (below_step (by repeat first|(with_reducible first|exact HB.out|apply lA_|apply lN_|apply lD_)|exact HB.out) hb);clear HB;have HB:=n0_;clear n0_;(try clear hb);(try clear hb2);(try clear hk);(try clear hi))|((with_reducible refine gate_callee (f:=36) rfl ?_);refine goesL_ (some 29) rfl rfl Try.func36 (by kernel_rfl) rfl #[.int .i64 a4,.int .i64 (-1048576),.int .i64 1048576] rfl (by (try simp only [mA_,mC_,mN_]);first|done|rfl|(simp only [dL_,kL_];rfl)) ?_;(with_reducible refine (r01_Clamp.calls a4 (-1048576) 1048576 t457 _ A12.out).mono ?_);rintro e w28 ⟨rfl,hb⟩;refine ⟨_,rfl,?_⟩;have n0_:=Aside0.mk (below_step (by repeat first|(with_reducible first|exact HB.out|apply lA_|apply lN_|apply lD_)|exact HB.out) hb);clear HB;have HB:=n0_;clear n0_;(try clear hb);(try clear hb2);(try clear hk);(try clear hi))|((with_reducible refine gate_callee (f:=35) rfl ?_);refine goesL_ (some 30) rfl rfl Try.func35 (by kernel_rfl) rfl #[.int .i64 a0,.slice A1 l1.length c1,.int .i64 t456,.int .i64 t457] rfl (by (try simp only [mA_,mC_,mN_]);first|done|rfl|(simp only [dL_,kL_];rfl)) ?_;(with_reducible refine (r18_plain.calls kj5 a0 _ _ l1 t456 t457 t458 _ ?side1 ?side2 A13.out).mono ?_);(case side1=>repeat (first|exact (Kd.C_below HR1.out HB.out)|(with_reducible refine Kd.C_alloc ?_ _)|(with_reducible refine Kd.C_drewN ?_ _)|(with_reducible refine Kd.C_drew ?_)));(case side2=>exact HC1.out);rintro e w' ⟨rfl,⟨nd,rfl⟩⟩;refine ⟨_,rfl,?_⟩)|((with_reducible refine gate_callee (f:=37) rfl ?_);refine goesL_ (some 40) rfl rfl Try.func37 (by kernel_rfl) rfl #[.int .i64 t458,.int .i64 131072] rfl (by (try simp only [mA_,mC_,mN_]);first|done|rfl|(simp only [dL_,kL_];rfl)) ?_;(with_reducible refine (r18_mod.calls kj5 t458 131072 t461 _ A23.out).mono ?_);rintro e w' ⟨rfl,⟨nd,rfl⟩⟩;refine ⟨_,rfl,?_⟩))
   go_ret
   exact ⟨by first|rfl|(simp [errW_none,errW_some] <;> rfl)|(simp [*,errW_none,errW_some] <;> rfl),by repeat first|(with_reducible first|exact HB.out|apply lA_|apply lN_|apply lD_)|exact HB.out⟩

end Go.Proofs.Ytmlcobnidfkhfaa.Q
