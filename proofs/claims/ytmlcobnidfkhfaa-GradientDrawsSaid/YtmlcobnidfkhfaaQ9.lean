/- Each Go function of the law as a Lean function, with the proof that its call comes to just that, for every input; written by hp.py, a program of this session over the kit own print of the translation. -/
import Derived.Test.YtmlcobnidfkhfaaQ0
import Derived.Test.YtmlcobnidfkhfaaQ4
import Derived.Test.YtmlcobnidfkhfaaQ8
namespace Go.Proofs.Ytmlcobnidfkhfaa.Q
open Go.RowKit Go.Proofs.YtmlcobnidfkhfaaW.PrintWords Go.Proofs.YtmlcobnidfkhfaaW.PrintLast Go.Proofs.YtmlcobnidfkhfaaW.PrintMore
attribute [local go_sem] max2_int min2_int max_two min_two max_three min_three max_four min_four   -- for this text's walks alone
set_option linter.unusedVariables false
set_option linter.unusedSimpArgs false
open Go.Proofs.Ytmlcobnidfkhfaa.Clo Go.Proofs.Ytmlcobnidfkhfaa.Mk0

/-! ### gr_Check: function 16 -/
def gr_Check.j0:Nat→List (S47)→Int→Bool→Option (Int)
 | 0,_,_,_=>none
 | k+1,x3,x11,x24=>if x24=true then (some 1) else (if (x3.length:Int)>16 then (some 3) else (if x11=0 then ((gr_list.f k x3).bind fun t200=>(some t200)) else (some x11)))
def gr_Check.f (k:Nat) (a0:Int) (l1:List Int) (a2:Int) (l3:List (S47)):Option (Int):=(gr_params.f k a0 l1 a2).bind fun bt197=>(if bt197.1=0 then (if bt197.2.1=0 then (gr_Check.j0 k l3 bt197.2.2 ((l3.length:Int)==0)) else (gr_Check.j0 k l3 bt197.2.2 true)) else (some bt197.1))
theorem gr_Check.mono_l:∀ k,(∀ y0 y1 y2,LeO (gr_Check.j0 k y0 y1 y2) (gr_Check.j0 (k+1) y0 y1 y2))
 | 0=>fun _ _ _ r h=>by simp [gr_Check.j0] at h
 | k+1=>by
  have ih0:=gr_Check.mono_l k
  ·intro y0 y1 y2
   unfold gr_Check.j0
   repeat' first
   | (with_reducible exact ih0 _ _ _)
   | (with_reducible exact gr_list.mono _ _)
   | (with_reducible exact gr_params.mono _ _ _ _)
   | (with_reducible exact LeO.refl _)
   | (with_reducible exact LeO.none _)
   | (with_reducible refine LeO.ite ?_ ?_)
   | (with_reducible refine LeO.bind ?_ (fun _=>?_))
theorem gr_Check.mono:∀ a0 a1 a2 a3 k,LeO (gr_Check.f k a0 a1 a2 a3) (gr_Check.f (k+1) a0 a1 a2 a3):=by
 intro a0 a1 a2 a3 k;have ih0:=gr_Check.mono_l k
 unfold gr_Check.f
 repeat' first
   | (with_reducible exact ih0 _ _ _)
   | (with_reducible exact gr_list.mono _ _)
   | (with_reducible exact gr_params.mono _ _ _ _)
   | (with_reducible exact LeO.refl _)
   | (with_reducible exact LeO.none _)
   | (with_reducible refine LeO.ite ?_ ?_)
   | (with_reducible refine LeO.bind ?_ (fun _=>?_))
set_option maxHeartbeats 8000000 in
set_option maxRecDepth 100000 in
theorem gr_Check.calls (k:Nat) (a0:Int) (A1:Option Addr) (c1:Nat) (l1:List Int) (a2:Int) (A3:Option Addr) (c3:Nat) (l3:List (S47)) (r:Int) (w:World) (hr1:Kd.C (Kd.int .i64) w A1 l1.length l1) (hc1:l1.length≤c1) (hr3:Kd.C k47 w A3 l3.length l3) (hc3:l3.length≤c3) (h:gr_Check.f k a0 l1 a2 l3=some r) :
  Calls Try.prog 16 #[.int .i64 a0,.slice A1 l1.length c1,.int .i64 a2,.slice A3 l3.length c3] w fun e w'=>e = .returned (.int .i64 r)∧Below w.heap.size w w':=by
 have HR1:=Aside0.mk hr1;have HC1:=Aside0.mk hc1;clear hr1 hc1;have HR3:=Aside0.mk hr3;have HC3:=Aside0.mk hc3;clear hr3 hc3;have HB:=Aside0.mk (Below.refl w.heap.size w)
 have H:((gr_params.f k a0 l1 a2).bind fun bt197=>(if bt197.1=0 then (if bt197.2.1=0 then (gr_Check.j0 k l3 bt197.2.2 ((l3.length:Int)==0)) else (gr_Check.j0 k l3 bt197.2.2 true)) else (some bt197.1)))=some r:=h
 clear h;replace H:=Option.bind_eq_some_iff.mp H;obtain ⟨⟨t197,t198,t199⟩,A50,H⟩:=H
 replace H:(if t197=0 then (if t198=0 then (gr_Check.j0 k l3 t199 ((l3.length:Int)==0)) else (gr_Check.j0 k l3 t199 true)) else (some t197))=some r:=H
 have A5:=Aside0.mk A50;clear A50;by_cases c6:t197=0
 ·rw [if_pos c6] at H
  have c6b0:=beq_iff_eq.mpr c6;have c6b1:=bne_eq_false_iff_eq.mpr c6;clear c6;have HC7:=Aside0.mk H;clear H
  go_enter Try.func16,Try.ntmps16
  go_upto_region 4 with (first|((with_reducible refine gate_callee (f:=25) rfl ?_);refine goesL_ (some 16) rfl rfl Try.func25 (by kernel_rfl) rfl #[.int .i64 a0,.slice A1 l1.length c1,.int .i64 a2] rfl (by (try simp only [mA_,mC_,mN_]);first|done|rfl|(simp only [dL_,kL_];rfl)) ?_;(with_reducible refine (gr_params.calls k a0 _ _ l1 a2 t197 t198 t199 _ ?side1 ?side2 A5.out).mono ?_);(case side1=>repeat (first|exact HR1.out|(with_reducible refine Kd.C_alloc ?_ _)|(with_reducible refine Kd.C_drewN ?_ _)|(with_reducible refine Kd.C_drew ?_)));(case side2=>exact HC1.out);rintro e w' ⟨rfl,⟨nd,rfl⟩⟩;refine ⟨_,rfl,?_⟩))
  (try simp only [Act.put,tS_,tZ_,tC_])
  go_cut [24] (fun v24 wc=>∃ (kq:Nat) (x24_6:Bool),v24 = .bool x24_6∧Aside0 (gr_Check.j0 kq l3 t199 x24_6=some r)∧Aside0 (kq≤k)∧Aside0 (Below w.heap.size w wc))
  case first =>
   have H:=HC7.out;clear HC7;by_cases c8:t198=0
   ·rw [if_pos c8] at H
    have c8b0:=beq_iff_eq.mpr c8;have c8b1:=bne_eq_false_iff_eq.mpr c8;clear c8
    (first|rw [c8b0]|(simp only [i64_w,i32_w];rw [c8b0])|skip)
    have H':=Aside0.mk H;clear H
    go_wp2
    go_meet
    case rel=>exact ⟨_,(((l3.length:Int)==0)),(by first|rfl|(simp;done)|(simp [*];done)),H',⟨by first|omega|exact Nat.le_refl _⟩,⟨by repeat first|(with_reducible first|exact HB.out|apply lA_|apply lN_|apply lD_)|exact HB.out⟩⟩
   rw [if_neg c8] at H;have c8b0:(t198==0)=false:=beq_eq_false_iff_ne.mpr c8;have c8b1:(t198 != 0)=true:=bne_iff_ne.mpr c8
   (first|rw [c8b0]|(simp only [i64_w,i32_w];rw [c8b0])|skip)
   have H':=Aside0.mk H;clear H
   go_wp2
   go_meet
   case rel=>exact ⟨_,(true),(by first|rfl|(simp;done)|(simp [*];done)),H',⟨by first|omega|exact Nat.le_refl _⟩,⟨by repeat first|(with_reducible first|exact HB.out|apply lA_|apply lN_|apply lD_)|exact HB.out⟩⟩
  case rest =>
   clear HC7;obtain ⟨kq,x24_6,rfl,HA,HJ6,HB⟩:=hcut
   cases kq with
   | zero=>exact absurd HA.out (by simp [gr_Check.j0])
   | succ kj6 =>
    have H:=HA.out;clear HA;simp only [gr_Check.j0] at H;by_cases c9:x24_6=true
    ·subst c9
     have H1:(some 1)=some r:=by rw [if_pos rfl] at H;exact H
     clear H;have H:=H1;clear H1;obtain rfl:=Option.some.inj H
     go_wp2
     go_ret
     exact ⟨by first|rfl|(simp [errW_none,errW_some] <;> rfl)|(simp [*,errW_none,errW_some] <;> rfl),by repeat first|(with_reducible first|exact HB.out|apply lA_|apply lN_|apply lD_)|exact HB.out⟩
    replace c9:=Bool.eq_false_iff.mpr c9;subst c9
    have H1:(if (l3.length:Int)>16 then (some 3) else (if t199=0 then ((gr_list.f kj6 l3).bind fun t200=>(some t200)) else (some t199)))=some r:=by rw [if_neg (show ¬ (false=true) by decide)] at H;exact H
    clear H;have H:=H1;clear H1;by_cases c10:(l3.length:Int)>16
    ·rw [if_pos c10] at H
     have c10b0:=decide_eq_true c10
     have c10b1:decide (16<l3.length)=true:=decide_eq_true (by omega)
     clear c10;obtain rfl:=Option.some.inj H
     go_wp2
     go_ret
     exact ⟨by first|rfl|(simp [errW_none,errW_some] <;> rfl)|(simp [*,errW_none,errW_some] <;> rfl),by repeat first|(with_reducible first|exact HB.out|apply lA_|apply lN_|apply lD_)|exact HB.out⟩
    rw [if_neg c10] at H;have c10b0:=decide_eq_false c10
    have c10b1:decide (16<l3.length)=false:=decide_eq_false (by omega)
    clear c10;by_cases c11:t199=0
    ·rw [if_pos c11] at H
     have c11b0:=beq_iff_eq.mpr c11;have c11b1:=bne_eq_false_iff_eq.mpr c11;clear c11;replace H:=Option.bind_eq_some_iff.mp H;obtain ⟨t200,A120,H⟩:=H;replace H:(some t200)=some r:=H;have A12:=Aside0.mk A120;clear A120;obtain rfl:=Option.some.inj H
     go_wp2_with (first|((with_reducible refine gate_callee (f:=30) rfl ?_);refine goesL_ (some 41) rfl rfl Try.func30 (by kernel_rfl) rfl #[.slice A3 l3.length c3] rfl (by (try simp only [mA_,mC_,mN_]);first|done|rfl|(simp only [dL_,kL_];rfl)) ?_;(with_reducible refine (gr_list.calls kj6 _ _ l3 t200 _ ?side1 ?side2 A12.out).mono ?_);(case side1=>repeat (first|exact (Kd.C_below HR3.out HB.out)|(with_reducible refine Kd.C_alloc ?_ _)|(with_reducible refine Kd.C_drewN ?_ _)|(with_reducible refine Kd.C_drew ?_)));(case side2=>exact HC3.out);rintro e w13 ⟨rfl,hb⟩;refine ⟨_,rfl,?_⟩;have n0_:=Aside0.mk (below_step (by repeat first|(with_reducible first|exact HB.out|apply lA_|apply lN_|apply lD_)|exact HB.out) hb);clear HB;have HB:=n0_;clear n0_;(try clear hb);(try clear hb2);(try clear hk);(try clear hi)))
     go_ret
     exact ⟨by first|rfl|(simp [errW_none,errW_some] <;> rfl)|(simp [*,errW_none,errW_some] <;> rfl),by repeat first|(with_reducible first|exact HB.out|apply lA_|apply lN_|apply lD_)|exact HB.out⟩
    rw [if_neg c11] at H;have c11b0:(t199==0)=false:=beq_eq_false_iff_ne.mpr c11;have c11b1:(t199 != 0)=true:=bne_iff_ne.mpr c11;obtain rfl:=Option.some.inj H
    go_wp2
    go_ret
    exact ⟨by first|rfl|(simp [errW_none,errW_some] <;> rfl)|(simp [*,errW_none,errW_some] <;> rfl),by repeat first|(with_reducible first|exact HB.out|apply lA_|apply lN_|apply lD_)|exact HB.out⟩
 rw [if_neg c6] at H;have c6b0:(t197==0)=false:=beq_eq_false_iff_ne.mpr c6;have c6b1:(t197 != 0)=true:=bne_iff_ne.mpr c6;obtain rfl:=Option.some.inj H
 go_enter Try.func16,Try.ntmps16
 go_wp2_with (first|((with_reducible refine gate_callee (f:=25) rfl ?_);refine goesL_ (some 16) rfl rfl Try.func25 (by kernel_rfl) rfl #[.int .i64 a0,.slice A1 l1.length c1,.int .i64 a2] rfl (by (try simp only [mA_,mC_,mN_]);first|done|rfl|(simp only [dL_,kL_];rfl)) ?_;(with_reducible refine (gr_params.calls k a0 _ _ l1 a2 t197 t198 t199 _ ?side1 ?side2 A5.out).mono ?_);(case side1=>repeat (first|exact HR1.out|(with_reducible refine Kd.C_alloc ?_ _)|(with_reducible refine Kd.C_drewN ?_ _)|(with_reducible refine Kd.C_drew ?_)));(case side2=>exact HC1.out);rintro e w' ⟨rfl,⟨nd,rfl⟩⟩;refine ⟨_,rfl,?_⟩))
 go_ret
 exact ⟨by first|rfl|(simp [errW_none,errW_some] <;> rfl)|(simp [*,errW_none,errW_some] <;> rfl),by repeat first|(with_reducible first|exact HB.out|apply lA_|apply lN_|apply lD_)|exact HB.out⟩

/-! ### rect_span: function 43 -/
def rect_span.f (a0:Int) (a1:Int):Option (Bool):=if a0≥(-1048576) then (if a0≤1048576 then (if a1≥0 then (some (decide (a1≤(wrap64 (1048576-a0))))) else (some false)) else (some false)) else (some false)
set_option maxHeartbeats 8000000 in
set_option maxRecDepth 100000 in
theorem rect_span.calls (a0:Int) (a1:Int) (r:Bool) (w:World) (h:rect_span.f a0 a1=some r) :
  Calls Try.prog 43 #[.int .i64 a0,.int .i64 a1] w fun e w'=>e = .returned (.bool r)∧Drawn0 w w':=by
 have H:(if a0≥(-1048576) then (if a0≤1048576 then (if a1≥0 then (some (decide (a1≤(wrap64 (1048576-a0))))) else (some false)) else (some false)) else (some false))=some r:=h
 clear h;by_cases c3:a0≥(-1048576)
 ·rw [if_pos c3] at H
  have c3b0:=decide_eq_true c3;clear c3;by_cases c4:a0≤1048576
  ·rw [if_pos c4] at H
   have c4b0:=decide_eq_true c4;clear c4;by_cases c5:a1≥0
   ·rw [if_pos c5] at H
    have c5b0:=decide_eq_true c5;clear c5;obtain rfl:=Option.some.inj H
    go_enter Try.func43,Try.ntmps43
    go_wp2
    go_ret
    exact ⟨by first|rfl|(simp;done)|(simp [*];done),by repeat (first|exact Drawn0.refl _|apply Drawn0.step)⟩
   rw [if_neg c5] at H;have c5b0:=decide_eq_false c5;clear c5;obtain rfl:=Option.some.inj H
   go_enter Try.func43,Try.ntmps43
   go_wp2
   go_ret
   exact ⟨by first|rfl|(simp;done)|(simp [*];done),by repeat (first|exact Drawn0.refl _|apply Drawn0.step)⟩
  rw [if_neg c4] at H;have c4b0:=decide_eq_false c4;clear c4;obtain rfl:=Option.some.inj H
  go_enter Try.func43,Try.ntmps43
  go_wp2
  go_ret
  exact ⟨by first|rfl|(simp;done)|(simp [*];done),by repeat (first|exact Drawn0.refl _|apply Drawn0.step)⟩
 rw [if_neg c3] at H;have c3b0:=decide_eq_false c3;clear c3;obtain rfl:=Option.some.inj H
 go_enter Try.func43,Try.ntmps43
 go_wp2
 go_ret
 exact ⟨by first|rfl|(simp;done)|(simp [*];done),by repeat (first|exact Drawn0.refl _|apply Drawn0.step)⟩

/-! ### rect_Valid: function 27 -/
def rect_Valid.f (a0_0:Int) (a0_1:Int) (a0_2:Int) (a0_3:Int):Option (Bool):=(rect_span.f a0_0 a0_2).bind fun t202=>(if t202=true then ((rect_span.f a0_1 a0_3).bind fun t203=>(some t203)) else (some false))
set_option maxHeartbeats 8000000 in
set_option maxRecDepth 100000 in
theorem rect_Valid.calls (a0_0:Int) (a0_1:Int) (a0_2:Int) (a0_3:Int) (r:Bool) (w:World) (h:rect_Valid.f a0_0 a0_1 a0_2 a0_3=some r) :
  Calls Try.prog 27 #[.agg #[.int .i64 a0_0,.int .i64 a0_1,.int .i64 a0_2,.int .i64 a0_3]] w fun e w'=>e = .returned (.bool r)∧Below w.heap.size w w':=by
 have hu31:=Try.underlying31;have HB:=Aside0.mk (Below.refl w.heap.size w)
 have H:((rect_span.f a0_0 a0_2).bind fun t202=>(if t202=true then ((rect_span.f a0_1 a0_3).bind fun t203=>(some t203)) else (some false)))=some r:=h
 clear h;replace H:=Option.bind_eq_some_iff.mp H;obtain ⟨t202,A20,H⟩:=H
 replace H:(if t202=true then ((rect_span.f a0_1 a0_3).bind fun t203=>(some t203)) else (some false))=some r:=H
 have A2:=Aside0.mk A20;clear A20;by_cases c3:t202=true
 ·subst c3
  have H1:((rect_span.f a0_1 a0_3).bind fun t203=>(some t203))=some r:=by rw [if_pos rfl] at H;exact H
  clear H;have H:=H1;clear H1;replace H:=Option.bind_eq_some_iff.mp H;obtain ⟨t203,A40,H⟩:=H;replace H:(some t203)=some r:=H;have A4:=Aside0.mk A40;clear A40;obtain rfl:=Option.some.inj H
  go_enter Try.func27,Try.ntmps27
  go_wp2_with (first|((with_reducible refine gate_dst (N:=1) rfl ?_);refine box_event ?hg (N:=1) ?hd (cs:=#[.int .i64 a0_0,.int .i64 a0_1,.int .i64 a0_2,.int .i64 a0_3]) (t:=31) ?hr ?_;(case hd=>rfl);(case hg=>rfl);(case hr=>first|(go_simp;done)|(go_simp;rfl));intro gb201 hg w5 hbox hb;have n0_:=Aside0.mk (below_step (by repeat first|(with_reducible first|exact HB.out|apply lA_|apply lN_|apply lD_)|exact HB.out) hb);have n1_:=Aside0.mk (hbox);have n2_:=Aside0.mk ((by rw [hg];exact (below_size (by repeat first|(with_reducible first|exact HB.out|apply lA_|apply lN_|apply lD_)|exact HB.out)):w.heap.size≤gb201));have n3_:=Aside0.mk ((by rw [hg];exact (below_size (by repeat first|(with_reducible first|exact HB.out|apply lA_|apply lN_|apply lD_)|exact HB.out)):w.heap.size≤gb201));clear HB;have HB:=n0_;have BK201:=n1_;have GW201:=n2_;have GE201:=n3_;clear n0_ n1_ n2_ n3_;clear hb hbox hg;have hcz6_0:w5.cell? ⟨gb201,0,none⟩=some (.int .i64 a0_0):=(blk_cell BK201.out 0).trans rfl;have hcz6_1:w5.cell? ⟨gb201,1,none⟩=some (.int .i64 a0_1):=(blk_cell BK201.out 1).trans rfl;have hcz6_2:w5.cell? ⟨gb201,2,none⟩=some (.int .i64 a0_2):=(blk_cell BK201.out 2).trans rfl;have hcz6_3:w5.cell? ⟨gb201,3,none⟩=some (.int .i64 a0_3):=(blk_cell BK201.out 3).trans rfl;have hfz6_0:=blk_frozen BK201.out 0;have hfz6_1:=blk_frozen BK201.out 1;have hfz6_2:=blk_frozen BK201.out 2;have hfz6_3:=blk_frozen BK201.out 3)|((with_reducible refine gate_callee (f:=43) rfl ?_);refine goesL_ (some 7) rfl rfl Try.func43 (by kernel_rfl) rfl #[.int .i64 a0_0,.int .i64 a0_2] rfl (by (try simp only [mA_,mC_,mN_]);first|done|rfl|(simp only [dL_,kL_];rfl)) ?_;(with_reducible refine (rect_span.calls a0_0 a0_2 true _ A2.out).mono ?_);rintro e w' ⟨rfl,⟨nd,rfl⟩⟩;refine ⟨_,rfl,?_⟩)|(go_at_call 43;(with_reducible refine (rect_span.calls a0_1 a0_3 t203 _ A4.out).mono ?_);rintro e w' ⟨rfl,⟨nd,rfl⟩⟩))
  go_ret
  exact ⟨by first|rfl|(simp [errW_none,errW_some] <;> rfl)|(simp [*,errW_none,errW_some] <;> rfl),by repeat first|(with_reducible first|exact HB.out|apply lA_|apply lN_|apply lD_|refine lS_ ?_ GE201.out)|exact HB.out⟩
 replace c3:=Bool.eq_false_iff.mpr c3;subst c3
 have H1:(some false)=some r:=by rw [if_neg (show ¬ (false=true) by decide)] at H;exact H
 clear H;have H:=H1;clear H1;obtain rfl:=Option.some.inj H
 go_enter Try.func27,Try.ntmps27
 go_wp2_with (first|((with_reducible refine gate_dst (N:=1) rfl ?_);refine box_event ?hg (N:=1) ?hd (cs:=#[.int .i64 a0_0,.int .i64 a0_1,.int .i64 a0_2,.int .i64 a0_3]) (t:=31) ?hr ?_;(case hd=>rfl);(case hg=>rfl);(case hr=>first|(go_simp;done)|(go_simp;rfl));intro gb201 hg w7 hbox hb;have n0_:=Aside0.mk (below_step (by repeat first|(with_reducible first|exact HB.out|apply lA_|apply lN_|apply lD_)|exact HB.out) hb);have n1_:=Aside0.mk (hbox);have n2_:=Aside0.mk ((by rw [hg];exact (below_size (by repeat first|(with_reducible first|exact HB.out|apply lA_|apply lN_|apply lD_)|exact HB.out)):w.heap.size≤gb201));have n3_:=Aside0.mk ((by rw [hg];exact (below_size (by repeat first|(with_reducible first|exact HB.out|apply lA_|apply lN_|apply lD_)|exact HB.out)):w.heap.size≤gb201));clear HB;have HB:=n0_;have BK201:=n1_;have GW201:=n2_;have GE201:=n3_;clear n0_ n1_ n2_ n3_;clear hb hbox hg;have hcz8_0:w7.cell? ⟨gb201,0,none⟩=some (.int .i64 a0_0):=(blk_cell BK201.out 0).trans rfl;have hcz8_1:w7.cell? ⟨gb201,1,none⟩=some (.int .i64 a0_1):=(blk_cell BK201.out 1).trans rfl;have hcz8_2:w7.cell? ⟨gb201,2,none⟩=some (.int .i64 a0_2):=(blk_cell BK201.out 2).trans rfl;have hcz8_3:w7.cell? ⟨gb201,3,none⟩=some (.int .i64 a0_3):=(blk_cell BK201.out 3).trans rfl;have hfz8_0:=blk_frozen BK201.out 0;have hfz8_1:=blk_frozen BK201.out 1;have hfz8_2:=blk_frozen BK201.out 2;have hfz8_3:=blk_frozen BK201.out 3)|((with_reducible refine gate_callee (f:=43) rfl ?_);refine goesL_ (some 7) rfl rfl Try.func43 (by kernel_rfl) rfl #[.int .i64 a0_0,.int .i64 a0_2] rfl (by (try simp only [mA_,mC_,mN_]);first|done|rfl|(simp only [dL_,kL_];rfl)) ?_;(with_reducible refine (rect_span.calls a0_0 a0_2 false _ A2.out).mono ?_);rintro e w' ⟨rfl,⟨nd,rfl⟩⟩;refine ⟨_,rfl,?_⟩))
 go_ret
 exact ⟨by first|rfl|(simp [errW_none,errW_some] <;> rfl)|(simp [*,errW_none,errW_some] <;> rfl),by repeat first|(with_reducible first|exact HB.out|apply lA_|apply lN_|apply lD_|refine lS_ ?_ GE201.out)|exact HB.out⟩

/-! ### rect_known: function 44 -/
def rect_known.f (a0_0:Int) (a0_1:Int) (a0_2:Int) (a0_3:Int):Option (Int × Int × Int × Int):=(rect_Valid.f a0_0 a0_1 a0_2 a0_3).bind fun t206=>(if t206=true then (some (a0_0,a0_1,a0_2,a0_3)) else (some (0,0,0,0)))
set_option maxHeartbeats 8000000 in
set_option maxRecDepth 100000 in
theorem rect_known.calls (a0_0:Int) (a0_1:Int) (a0_2:Int) (a0_3:Int) (r1:Int) (r2:Int) (r3:Int) (r4:Int) (w:World) (h:rect_known.f a0_0 a0_1 a0_2 a0_3=some (r1,r2,r3,r4)) :
  Calls Try.prog 44 #[.agg #[.int .i64 a0_0,.int .i64 a0_1,.int .i64 a0_2,.int .i64 a0_3]] w fun e w'=>e = .returned (.agg #[.int .i64 r1,.int .i64 r2,.int .i64 r3,.int .i64 r4])∧Below w.heap.size w w':=by
 have hu31:=Try.underlying31;have HB:=Aside0.mk (Below.refl w.heap.size w)
 have H:((rect_Valid.f a0_0 a0_1 a0_2 a0_3).bind fun t206=>(if t206=true then (some (a0_0,a0_1,a0_2,a0_3)) else (some (0,0,0,0))))=some (r1,r2,r3,r4):=h
 clear h;replace H:=Option.bind_eq_some_iff.mp H;obtain ⟨t206,A20,H⟩:=H
 replace H:(if t206=true then (some (a0_0,a0_1,a0_2,a0_3)) else (some (0,0,0,0)))=some (r1,r2,r3,r4):=H
 have A2:=Aside0.mk A20;clear A20;by_cases c3:t206=true
 ·subst c3
  have H1:(some (a0_0,a0_1,a0_2,a0_3))=some (r1,r2,r3,r4):=by rw [if_pos rfl] at H;exact H
  clear H;have H:=H1;clear H1;simp only [Option.some.injEq,Prod.mk.injEq] at H;obtain ⟨rfl,rfl,rfl,rfl⟩:=H
  go_enter Try.func44,Try.ntmps44
  go_wp2_with (first|((with_reducible refine gate_dst (N:=1) rfl ?_);refine box_event ?hg (N:=1) ?hd (cs:=#[.int .i64 a0_0,.int .i64 a0_1,.int .i64 a0_2,.int .i64 a0_3]) (t:=31) ?hr ?_;(case hd=>rfl);(case hg=>rfl);(case hr=>first|(go_simp;done)|(go_simp;rfl));intro gb204 hg w4 hbox hb;have n0_:=Aside0.mk (below_step (by repeat first|(with_reducible first|exact HB.out|apply lA_|apply lN_|apply lD_)|exact HB.out) hb);have n1_:=Aside0.mk (hbox);have n2_:=Aside0.mk ((by rw [hg];exact (below_size (by repeat first|(with_reducible first|exact HB.out|apply lA_|apply lN_|apply lD_)|exact HB.out)):w.heap.size≤gb204));have n3_:=Aside0.mk ((by rw [hg];exact (below_size (by repeat first|(with_reducible first|exact HB.out|apply lA_|apply lN_|apply lD_)|exact HB.out)):w.heap.size≤gb204));clear HB;have HB:=n0_;have BK204:=n1_;have GW204:=n2_;have GE204:=n3_;clear n0_ n1_ n2_ n3_;clear hb hbox hg)|((with_reducible refine gate_dst (N:=2) rfl ?_);refine box_event ?hg (N:=2) ?hd (cs:=#[.int .i64 0,.int .i64 0,.int .i64 0,.int .i64 0]) (t:=31) ?hr ?_;(case hd=>rfl);(case hg=>rfl);(case hr=>first|(go_simp;done)|(go_simp;rfl));intro gb205 hg w5 hbox hb;have n0_:=Aside0.mk (blk_below (by (with_reducible repeat first|apply bN_|apply bD_|apply bA_);exact BK204.out) hb);have n1_:=Aside0.mk (below_step (by repeat first|(with_reducible first|exact HB.out|apply lA_|apply lN_|apply lD_|refine lS_ ?_ GE204.out)|exact HB.out) hb);have n2_:=Aside0.mk (hbox);have n3_:=Aside0.mk ((by rw [hg];exact (below_size (by repeat first|(with_reducible first|exact HB.out|apply lA_|apply lN_|apply lD_|refine lS_ ?_ GE204.out)|exact HB.out)):w.heap.size≤gb205));have n4_:=Aside0.mk ((by rw [hg];exact (below_size (by repeat first|(with_reducible first|exact HB.out|apply lA_|apply lN_|apply lD_|refine lS_ ?_ GE204.out)|exact HB.out)):w.heap.size≤gb205));have n5_:=Aside0.mk ((by rw [hg];exact Nat.ne_of_lt (blk_lt (g:=gb204) (o:=.cells #[.int .i64 a0_0,.int .i64 a0_1,.int .i64 a0_2,.int .i64 a0_3] 31 (0,0)) (by (with_reducible repeat first|apply bN_|apply bD_|apply bA_);exact BK204.out)):gb204 ≠ gb205));have n6_:=Aside0.mk ((by rw [hg];exact Nat.ne_of_gt (blk_lt (g:=gb204) (o:=.cells #[.int .i64 a0_0,.int .i64 a0_1,.int .i64 a0_2,.int .i64 a0_3] 31 (0,0)) (by (with_reducible repeat first|apply bN_|apply bD_|apply bA_);exact BK204.out)):gb205 ≠ gb204));clear BK204;clear HB;have BK204:=n0_;have HB:=n1_;have BK205:=n2_;have GW205:=n3_;have GE205:=n4_;have NB204_205:=n5_;have NB205_204:=n6_;clear n0_ n1_ n2_ n3_ n4_ n5_ n6_;clear hb hbox hg;have hnb6:=NB204_205.out;have hnc6:=NB205_204.out;have hcz7_0:w5.cell? ⟨gb204,0,none⟩=some (.int .i64 a0_0):=(blk_cell BK204.out 0).trans rfl;have hcz7_1:w5.cell? ⟨gb204,1,none⟩=some (.int .i64 a0_1):=(blk_cell BK204.out 1).trans rfl;have hcz7_2:w5.cell? ⟨gb204,2,none⟩=some (.int .i64 a0_2):=(blk_cell BK204.out 2).trans rfl;have hcz7_3:w5.cell? ⟨gb204,3,none⟩=some (.int .i64 a0_3):=(blk_cell BK204.out 3).trans rfl;have hfz7_0:=blk_frozen BK204.out 0;have hfz7_1:=blk_frozen BK204.out 1;have hfz7_2:=blk_frozen BK204.out 2;have hfz7_3:=blk_frozen BK204.out 3)|((with_reducible refine gate_callee (f:=27) rfl ?_);refine goesL_ (some 4) rfl rfl Try.func27 (by kernel_rfl) rfl #[.agg #[.int .i64 a0_0,.int .i64 a0_1,.int .i64 a0_2,.int .i64 a0_3]] rfl (by (try simp only [mA_,mC_,mN_]);first|done|rfl|(simp only [dL_,kL_];rfl)) ?_;(with_reducible refine (rect_Valid.calls a0_0 a0_1 a0_2 a0_3 true _ A2.out).mono ?_);rintro e w8 ⟨rfl,hb⟩;refine ⟨_,rfl,?_⟩;have n0_:=Aside0.mk (blk_below (by (with_reducible repeat first|apply bN_|apply bD_|apply bA_);exact BK204.out) hb);have n1_:=Aside0.mk (blk_below (by (with_reducible repeat first|apply bN_|apply bD_|apply bA_);exact BK205.out) hb);have n2_:=Aside0.mk (below_step (by repeat first|(with_reducible first|exact HB.out|apply lA_|apply lN_|apply lD_|refine lS_ ?_ GE204.out|refine lS_ ?_ GE205.out)|exact HB.out) hb);clear BK204;clear BK205;clear HB;have BK204:=n0_;have BK205:=n1_;have HB:=n2_;clear n0_ n1_ n2_;(try clear hb);(try clear hb2);(try clear hk);(try clear hi);have hcz9_0:w8.cell? ⟨gb204,0,none⟩=some (.int .i64 a0_0):=(blk_cell BK204.out 0).trans rfl;have hcz9_1:w8.cell? ⟨gb204,1,none⟩=some (.int .i64 a0_1):=(blk_cell BK204.out 1).trans rfl;have hcz9_2:w8.cell? ⟨gb204,2,none⟩=some (.int .i64 a0_2):=(blk_cell BK204.out 2).trans rfl;have hcz9_3:w8.cell? ⟨gb204,3,none⟩=some (.int .i64 a0_3):=(blk_cell BK204.out 3).trans rfl;have hfz9_0:=blk_frozen BK204.out 0;have hfz9_1:=blk_frozen BK204.out 1;have hfz9_2:=blk_frozen BK204.out 2;have hfz9_3:=blk_frozen BK204.out 3;have hcz10_0:w8.cell? ⟨gb205,0,none⟩=some (.int .i64 0):=(blk_cell BK205.out 0).trans rfl;have hcz10_1:w8.cell? ⟨gb205,1,none⟩=some (.int .i64 0):=(blk_cell BK205.out 1).trans rfl;have hcz10_2:w8.cell? ⟨gb205,2,none⟩=some (.int .i64 0):=(blk_cell BK205.out 2).trans rfl;have hcz10_3:w8.cell? ⟨gb205,3,none⟩=some (.int .i64 0):=(blk_cell BK205.out 3).trans rfl;have hfz10_0:=blk_frozen BK205.out 0;have hfz10_1:=blk_frozen BK205.out 1;have hfz10_2:=blk_frozen BK205.out 2;have hfz10_3:=blk_frozen BK205.out 3))
  refine bodyPost_ret (results_cell_row rfl _ _ gb205 31 #[.int .i64 a0_0,.int .i64 a0_1,.int .i64 a0_2,.int .i64 a0_3] (0,0) _ rfl (by (with_reducible repeat first|apply bN_|apply bD_|apply bA_);refine blk_put (cs:=#[.int .i64 a0_0,.int .i64 a0_1,.int .i64 a0_2,.int .i64 0]) ?_ 3 _ rfl;(with_reducible repeat first|apply bN_|apply bD_|apply bA_);refine blk_put (cs:=#[.int .i64 a0_0,.int .i64 a0_1,.int .i64 0,.int .i64 0]) ?_ 2 _ rfl;(with_reducible repeat first|apply bN_|apply bD_|apply bA_);refine blk_put (cs:=#[.int .i64 a0_0,.int .i64 0,.int .i64 0,.int .i64 0]) ?_ 1 _ rfl;(with_reducible repeat first|apply bN_|apply bD_|apply bA_);refine blk_put (cs:=#[.int .i64 0,.int .i64 0,.int .i64 0,.int .i64 0]) ?_ 0 _ rfl;(with_reducible repeat first|apply bN_|apply bD_|apply bA_);exact BK205.out) Try.underlying31 rfl (by kernel_rfl)) rfl ?_
  exact ⟨by first|rfl|(simp [errW_none,errW_some] <;> rfl)|(simp [*,errW_none,errW_some] <;> rfl),by repeat first|(with_reducible first|exact HB.out|apply lA_|apply lN_|apply lD_|refine lS_ ?_ GE204.out|refine lS_ ?_ GE205.out)|exact HB.out⟩
 replace c3:=Bool.eq_false_iff.mpr c3;subst c3
 have H1:(some (0,0,0,0))=some (r1,r2,r3,r4):=by rw [if_neg (show ¬ (false=true) by decide)] at H;exact H
 clear H;have H:=H1;clear H1;simp only [Option.some.injEq,Prod.mk.injEq] at H;obtain ⟨rfl,rfl,rfl,rfl⟩:=H
 go_enter Try.func44,Try.ntmps44
 go_wp2_with (first|((with_reducible refine gate_dst (N:=1) rfl ?_);refine box_event ?hg (N:=1) ?hd (cs:=#[.int .i64 a0_0,.int .i64 a0_1,.int .i64 a0_2,.int .i64 a0_3]) (t:=31) ?hr ?_;(case hd=>rfl);(case hg=>rfl);(case hr=>first|(go_simp;done)|(go_simp;rfl));intro gb204 hg w11 hbox hb;have n0_:=Aside0.mk (below_step (by repeat first|(with_reducible first|exact HB.out|apply lA_|apply lN_|apply lD_)|exact HB.out) hb);have n1_:=Aside0.mk (hbox);have n2_:=Aside0.mk ((by rw [hg];exact (below_size (by repeat first|(with_reducible first|exact HB.out|apply lA_|apply lN_|apply lD_)|exact HB.out)):w.heap.size≤gb204));have n3_:=Aside0.mk ((by rw [hg];exact (below_size (by repeat first|(with_reducible first|exact HB.out|apply lA_|apply lN_|apply lD_)|exact HB.out)):w.heap.size≤gb204));clear HB;have HB:=n0_;have BK204:=n1_;have GW204:=n2_;have GE204:=n3_;clear n0_ n1_ n2_ n3_;clear hb hbox hg)|((with_reducible refine gate_dst (N:=2) rfl ?_);refine box_event ?hg (N:=2) ?hd (cs:=#[.int .i64 0,.int .i64 0,.int .i64 0,.int .i64 0]) (t:=31) ?hr ?_;(case hd=>rfl);(case hg=>rfl);(case hr=>first|(go_simp;done)|(go_simp;rfl));intro gb205 hg w12 hbox hb;have n0_:=Aside0.mk (blk_below (by (with_reducible repeat first|apply bN_|apply bD_|apply bA_);exact BK204.out) hb);have n1_:=Aside0.mk (below_step (by repeat first|(with_reducible first|exact HB.out|apply lA_|apply lN_|apply lD_|refine lS_ ?_ GE204.out)|exact HB.out) hb);have n2_:=Aside0.mk (hbox);have n3_:=Aside0.mk ((by rw [hg];exact (below_size (by repeat first|(with_reducible first|exact HB.out|apply lA_|apply lN_|apply lD_|refine lS_ ?_ GE204.out)|exact HB.out)):w.heap.size≤gb205));have n4_:=Aside0.mk ((by rw [hg];exact (below_size (by repeat first|(with_reducible first|exact HB.out|apply lA_|apply lN_|apply lD_|refine lS_ ?_ GE204.out)|exact HB.out)):w.heap.size≤gb205));have n5_:=Aside0.mk ((by rw [hg];exact Nat.ne_of_lt (blk_lt (g:=gb204) (o:=.cells #[.int .i64 a0_0,.int .i64 a0_1,.int .i64 a0_2,.int .i64 a0_3] 31 (0,0)) (by (with_reducible repeat first|apply bN_|apply bD_|apply bA_);exact BK204.out)):gb204 ≠ gb205));have n6_:=Aside0.mk ((by rw [hg];exact Nat.ne_of_gt (blk_lt (g:=gb204) (o:=.cells #[.int .i64 a0_0,.int .i64 a0_1,.int .i64 a0_2,.int .i64 a0_3] 31 (0,0)) (by (with_reducible repeat first|apply bN_|apply bD_|apply bA_);exact BK204.out)):gb205 ≠ gb204));clear BK204;clear HB;have BK204:=n0_;have HB:=n1_;have BK205:=n2_;have GW205:=n3_;have GE205:=n4_;have NB204_205:=n5_;have NB205_204:=n6_;clear n0_ n1_ n2_ n3_ n4_ n5_ n6_;clear hb hbox hg;have hnb13:=NB204_205.out;have hnc13:=NB205_204.out;have hcz14_0:w12.cell? ⟨gb204,0,none⟩=some (.int .i64 a0_0):=(blk_cell BK204.out 0).trans rfl;have hcz14_1:w12.cell? ⟨gb204,1,none⟩=some (.int .i64 a0_1):=(blk_cell BK204.out 1).trans rfl;have hcz14_2:w12.cell? ⟨gb204,2,none⟩=some (.int .i64 a0_2):=(blk_cell BK204.out 2).trans rfl;have hcz14_3:w12.cell? ⟨gb204,3,none⟩=some (.int .i64 a0_3):=(blk_cell BK204.out 3).trans rfl;have hfz14_0:=blk_frozen BK204.out 0;have hfz14_1:=blk_frozen BK204.out 1;have hfz14_2:=blk_frozen BK204.out 2;have hfz14_3:=blk_frozen BK204.out 3)|((with_reducible refine gate_callee (f:=27) rfl ?_);refine goesL_ (some 4) rfl rfl Try.func27 (by kernel_rfl) rfl #[.agg #[.int .i64 a0_0,.int .i64 a0_1,.int .i64 a0_2,.int .i64 a0_3]] rfl (by (try simp only [mA_,mC_,mN_]);first|done|rfl|(simp only [dL_,kL_];rfl)) ?_;(with_reducible refine (rect_Valid.calls a0_0 a0_1 a0_2 a0_3 false _ A2.out).mono ?_);rintro e w15 ⟨rfl,hb⟩;refine ⟨_,rfl,?_⟩;have n0_:=Aside0.mk (blk_below (by (with_reducible repeat first|apply bN_|apply bD_|apply bA_);exact BK204.out) hb);have n1_:=Aside0.mk (blk_below (by (with_reducible repeat first|apply bN_|apply bD_|apply bA_);exact BK205.out) hb);have n2_:=Aside0.mk (below_step (by repeat first|(with_reducible first|exact HB.out|apply lA_|apply lN_|apply lD_|refine lS_ ?_ GE204.out|refine lS_ ?_ GE205.out)|exact HB.out) hb);clear BK204;clear BK205;clear HB;have BK204:=n0_;have BK205:=n1_;have HB:=n2_;clear n0_ n1_ n2_;(try clear hb);(try clear hb2);(try clear hk);(try clear hi);have hcz16_0:w15.cell? ⟨gb205,0,none⟩=some (.int .i64 0):=(blk_cell BK205.out 0).trans rfl;have hcz16_1:w15.cell? ⟨gb205,1,none⟩=some (.int .i64 0):=(blk_cell BK205.out 1).trans rfl;have hcz16_2:w15.cell? ⟨gb205,2,none⟩=some (.int .i64 0):=(blk_cell BK205.out 2).trans rfl;have hcz16_3:w15.cell? ⟨gb205,3,none⟩=some (.int .i64 0):=(blk_cell BK205.out 3).trans rfl;have hfz16_0:=blk_frozen BK205.out 0;have hfz16_1:=blk_frozen BK205.out 1;have hfz16_2:=blk_frozen BK205.out 2;have hfz16_3:=blk_frozen BK205.out 3))
 refine bodyPost_ret (results_cell_row rfl _ _ gb205 31 #[.int .i64 0,.int .i64 0,.int .i64 0,.int .i64 0] (0,0) _ rfl (by (with_reducible repeat first|apply bN_|apply bD_|apply bA_);refine blk_put (cs:=#[.int .i64 0,.int .i64 0,.int .i64 0,.int .i64 0]) ?_ 3 _ rfl;(with_reducible repeat first|apply bN_|apply bD_|apply bA_);refine blk_put (cs:=#[.int .i64 0,.int .i64 0,.int .i64 0,.int .i64 0]) ?_ 2 _ rfl;(with_reducible repeat first|apply bN_|apply bD_|apply bA_);refine blk_put (cs:=#[.int .i64 0,.int .i64 0,.int .i64 0,.int .i64 0]) ?_ 1 _ rfl;(with_reducible repeat first|apply bN_|apply bD_|apply bA_);refine blk_put (cs:=#[.int .i64 0,.int .i64 0,.int .i64 0,.int .i64 0]) ?_ 0 _ rfl;(with_reducible repeat first|apply bN_|apply bD_|apply bA_);exact BK205.out) Try.underlying31 rfl (by kernel_rfl)) rfl ?_
 exact ⟨by first|rfl|(simp [errW_none,errW_some] <;> rfl)|(simp [*,errW_none,errW_some] <;> rfl),by repeat first|(with_reducible first|exact HB.out|apply lA_|apply lN_|apply lD_|refine lS_ ?_ GE204.out|refine lS_ ?_ GE205.out)|exact HB.out⟩

/-! ### rect_Empty: function 28 -/
def rect_Empty.f (a0_0:Int) (a0_1:Int) (a0_2:Int) (a0_3:Int):Option (Bool):=(rect_known.f a0_0 a0_1 a0_2 a0_3).bind fun bt208=>(if bt208.2.2.1=0 then (some true) else (some (bt208.2.2.2==0)))
set_option maxHeartbeats 8000000 in
set_option maxRecDepth 100000 in
theorem rect_Empty.calls (a0_0:Int) (a0_1:Int) (a0_2:Int) (a0_3:Int) (r:Bool) (w:World) (h:rect_Empty.f a0_0 a0_1 a0_2 a0_3=some r) :
  Calls Try.prog 28 #[.agg #[.int .i64 a0_0,.int .i64 a0_1,.int .i64 a0_2,.int .i64 a0_3]] w fun e w'=>e = .returned (.bool r)∧Below w.heap.size w w':=by
 have hu31:=Try.underlying31;have HB:=Aside0.mk (Below.refl w.heap.size w)
 have H:((rect_known.f a0_0 a0_1 a0_2 a0_3).bind fun bt208=>(if bt208.2.2.1=0 then (some true) else (some (bt208.2.2.2==0))))=some r:=h
 clear h;replace H:=Option.bind_eq_some_iff.mp H;obtain ⟨⟨t208,t209,t210,t211⟩,A20,H⟩:=H
 replace H:(if t210=0 then (some true) else (some (t211==0)))=some r:=H
 have A2:=Aside0.mk A20;clear A20;by_cases c3:t210=0
 ·rw [if_pos c3] at H
  have c3b0:=beq_iff_eq.mpr c3;have c3b1:=bne_eq_false_iff_eq.mpr c3;clear c3;obtain rfl:=Option.some.inj H
  go_enter Try.func28,Try.ntmps28
  go_wp2_with (first|((with_reducible refine gate_dst (N:=1) rfl ?_);refine box_event ?hg (N:=1) ?hd (cs:=#[.int .i64 a0_0,.int .i64 a0_1,.int .i64 a0_2,.int .i64 a0_3]) (t:=31) ?hr ?_;(case hd=>rfl);(case hg=>rfl);(case hr=>first|(go_simp;done)|(go_simp;rfl));intro gb207 hg w4 hbox hb;have n0_:=Aside0.mk (below_step (by repeat first|(with_reducible first|exact HB.out|apply lA_|apply lN_|apply lD_)|exact HB.out) hb);have n1_:=Aside0.mk (hbox);have n2_:=Aside0.mk ((by rw [hg];exact (below_size (by repeat first|(with_reducible first|exact HB.out|apply lA_|apply lN_|apply lD_)|exact HB.out)):w.heap.size≤gb207));have n3_:=Aside0.mk ((by rw [hg];exact (below_size (by repeat first|(with_reducible first|exact HB.out|apply lA_|apply lN_|apply lD_)|exact HB.out)):w.heap.size≤gb207));clear HB;have HB:=n0_;have BK207:=n1_;have GW207:=n2_;have GE207:=n3_;clear n0_ n1_ n2_ n3_;clear hb hbox hg;have hcz5_0:w4.cell? ⟨gb207,0,none⟩=some (.int .i64 a0_0):=(blk_cell BK207.out 0).trans rfl;have hcz5_1:w4.cell? ⟨gb207,1,none⟩=some (.int .i64 a0_1):=(blk_cell BK207.out 1).trans rfl;have hcz5_2:w4.cell? ⟨gb207,2,none⟩=some (.int .i64 a0_2):=(blk_cell BK207.out 2).trans rfl;have hcz5_3:w4.cell? ⟨gb207,3,none⟩=some (.int .i64 a0_3):=(blk_cell BK207.out 3).trans rfl;have hfz5_0:=blk_frozen BK207.out 0;have hfz5_1:=blk_frozen BK207.out 1;have hfz5_2:=blk_frozen BK207.out 2;have hfz5_3:=blk_frozen BK207.out 3)|((with_reducible refine gate_callee (f:=44) rfl ?_);refine goesL_ (some 4) rfl rfl Try.func44 (by kernel_rfl) rfl #[.agg #[.int .i64 a0_0,.int .i64 a0_1,.int .i64 a0_2,.int .i64 a0_3]] rfl (by (try simp only [mA_,mC_,mN_]);first|done|rfl|(simp only [dL_,kL_];rfl)) ?_;(with_reducible refine (rect_known.calls a0_0 a0_1 a0_2 a0_3 t208 t209 t210 t211 _ A2.out).mono ?_);rintro e w6 ⟨rfl,hb⟩;refine ⟨_,rfl,?_⟩;have n0_:=Aside0.mk (blk_below (by (with_reducible repeat first|apply bN_|apply bD_|apply bA_);exact BK207.out) hb);have n1_:=Aside0.mk (below_step (by repeat first|(with_reducible first|exact HB.out|apply lA_|apply lN_|apply lD_|refine lS_ ?_ GE207.out)|exact HB.out) hb);clear BK207;clear HB;have BK207:=n0_;have HB:=n1_;clear n0_ n1_;(try clear hb);(try clear hb2);(try clear hk);(try clear hi);have hcz7_0:w6.cell? ⟨gb207,0,none⟩=some (.int .i64 a0_0):=(blk_cell BK207.out 0).trans rfl;have hcz7_1:w6.cell? ⟨gb207,1,none⟩=some (.int .i64 a0_1):=(blk_cell BK207.out 1).trans rfl;have hcz7_2:w6.cell? ⟨gb207,2,none⟩=some (.int .i64 a0_2):=(blk_cell BK207.out 2).trans rfl;have hcz7_3:w6.cell? ⟨gb207,3,none⟩=some (.int .i64 a0_3):=(blk_cell BK207.out 3).trans rfl;have hfz7_0:=blk_frozen BK207.out 0;have hfz7_1:=blk_frozen BK207.out 1;have hfz7_2:=blk_frozen BK207.out 2;have hfz7_3:=blk_frozen BK207.out 3))
  go_ret
  exact ⟨by first|rfl|(simp [errW_none,errW_some] <;> rfl)|(simp [*,errW_none,errW_some] <;> rfl),by repeat first|(with_reducible first|exact HB.out|apply lA_|apply lN_|apply lD_|refine lS_ ?_ GE207.out)|exact HB.out⟩
 rw [if_neg c3] at H;have c3b0:(t210==0)=false:=beq_eq_false_iff_ne.mpr c3;have c3b1:(t210 != 0)=true:=bne_iff_ne.mpr c3;obtain rfl:=Option.some.inj H
 go_enter Try.func28,Try.ntmps28
 go_wp2_with (first|((with_reducible refine gate_dst (N:=1) rfl ?_);refine box_event ?hg (N:=1) ?hd (cs:=#[.int .i64 a0_0,.int .i64 a0_1,.int .i64 a0_2,.int .i64 a0_3]) (t:=31) ?hr ?_;(case hd=>rfl);(case hg=>rfl);(case hr=>first|(go_simp;done)|(go_simp;rfl));intro gb207 hg w8 hbox hb;have n0_:=Aside0.mk (below_step (by repeat first|(with_reducible first|exact HB.out|apply lA_|apply lN_|apply lD_)|exact HB.out) hb);have n1_:=Aside0.mk (hbox);have n2_:=Aside0.mk ((by rw [hg];exact (below_size (by repeat first|(with_reducible first|exact HB.out|apply lA_|apply lN_|apply lD_)|exact HB.out)):w.heap.size≤gb207));have n3_:=Aside0.mk ((by rw [hg];exact (below_size (by repeat first|(with_reducible first|exact HB.out|apply lA_|apply lN_|apply lD_)|exact HB.out)):w.heap.size≤gb207));clear HB;have HB:=n0_;have BK207:=n1_;have GW207:=n2_;have GE207:=n3_;clear n0_ n1_ n2_ n3_;clear hb hbox hg;have hcz9_0:w8.cell? ⟨gb207,0,none⟩=some (.int .i64 a0_0):=(blk_cell BK207.out 0).trans rfl;have hcz9_1:w8.cell? ⟨gb207,1,none⟩=some (.int .i64 a0_1):=(blk_cell BK207.out 1).trans rfl;have hcz9_2:w8.cell? ⟨gb207,2,none⟩=some (.int .i64 a0_2):=(blk_cell BK207.out 2).trans rfl;have hcz9_3:w8.cell? ⟨gb207,3,none⟩=some (.int .i64 a0_3):=(blk_cell BK207.out 3).trans rfl;have hfz9_0:=blk_frozen BK207.out 0;have hfz9_1:=blk_frozen BK207.out 1;have hfz9_2:=blk_frozen BK207.out 2;have hfz9_3:=blk_frozen BK207.out 3)|((with_reducible refine gate_callee (f:=44) rfl ?_);refine goesL_ (some 4) rfl rfl Try.func44 (by kernel_rfl) rfl #[.agg #[.int .i64 a0_0,.int .i64 a0_1,.int .i64 a0_2,.int .i64 a0_3]] rfl (by (try simp only [mA_,mC_,mN_]);first|done|rfl|(simp only [dL_,kL_];rfl)) ?_;(with_reducible refine (rect_known.calls a0_0 a0_1 a0_2 a0_3 t208 t209 t210 t211 _ A2.out).mono ?_);rintro e w10 ⟨rfl,hb⟩;refine ⟨_,rfl,?_⟩;have n0_:=Aside0.mk (blk_below (by (with_reducible repeat first|apply bN_|apply bD_|apply bA_);exact BK207.out) hb);have n1_:=Aside0.mk (below_step (by repeat first|(with_reducible first|exact HB.out|apply lA_|apply lN_|apply lD_|refine lS_ ?_ GE207.out)|exact HB.out) hb);clear BK207;clear HB;have BK207:=n0_;have HB:=n1_;clear n0_ n1_;(try clear hb);(try clear hb2);(try clear hk);(try clear hi);have hcz11_0:w10.cell? ⟨gb207,0,none⟩=some (.int .i64 a0_0):=(blk_cell BK207.out 0).trans rfl;have hcz11_1:w10.cell? ⟨gb207,1,none⟩=some (.int .i64 a0_1):=(blk_cell BK207.out 1).trans rfl;have hcz11_2:w10.cell? ⟨gb207,2,none⟩=some (.int .i64 a0_2):=(blk_cell BK207.out 2).trans rfl;have hcz11_3:w10.cell? ⟨gb207,3,none⟩=some (.int .i64 a0_3):=(blk_cell BK207.out 3).trans rfl;have hfz11_0:=blk_frozen BK207.out 0;have hfz11_1:=blk_frozen BK207.out 1;have hfz11_2:=blk_frozen BK207.out 2;have hfz11_3:=blk_frozen BK207.out 3))
 go_ret
 exact ⟨by first|rfl|(simp [errW_none,errW_some] <;> rfl)|(simp [*,errW_none,errW_some] <;> rfl),by repeat first|(with_reducible first|exact HB.out|apply lA_|apply lN_|apply lD_|refine lS_ ?_ GE207.out)|exact HB.out⟩

/-! ### pixel_Mix_1: function 60 -/
def pixel_Mix_1.f (k:Nat) (a0:Int) (a1:Int) (a2:Int) (a3:Int) (a4:Int):Option (Int):=(num_Div.f k (wrap64 ((wrap64 (a0*a2))+(wrap64 (a1*a3)))) a4).bind fun t215=>(some t215)
theorem pixel_Mix_1.mono:∀ a0 a1 a2 a3 a4 k,LeO (pixel_Mix_1.f k a0 a1 a2 a3 a4) (pixel_Mix_1.f (k+1) a0 a1 a2 a3 a4):=by
 intro a0 a1 a2 a3 a4 k
 unfold pixel_Mix_1.f
 repeat' first
   | (with_reducible exact num_Div.mono _ _ _)
   | (with_reducible exact LeO.refl _)
   | (with_reducible exact LeO.none _)
   | (with_reducible refine LeO.ite ?_ ?_)
   | (with_reducible refine LeO.bind ?_ (fun _=>?_))
set_option maxHeartbeats 8000000 in
set_option maxRecDepth 100000 in
theorem pixel_Mix_1.calls (k:Nat) (a0:Int) (a1:Int) (a2:Int) (a3:Int) (a4:Int) (r:Int) (w:World) (g2_:Nat) (hk2_:w.heap[g2_]? = some (.cells #[.int .i64 a2] 3 (0,0))) (g3_:Nat) (hk3_:w.heap[g3_]? = some (.cells #[.int .i64 a3] 3 (0,0))) (g4_:Nat) (hk4_:w.heap[g4_]? = some (.cells #[.int .i64 a4] 3 (0,0))) (h:pixel_Mix_1.f k a0 a1 a2 a3 a4=some r) :
  Calls Try.prog 60 #[.int .i64 a0,.int .i64 a1,.pointer (some ⟨g2_,0,none⟩),.pointer (some ⟨g3_,0,none⟩),.pointer (some ⟨g4_,0,none⟩)] w fun e w'=>e = .returned (.int .i64 r)∧Drawn0 w w':=by
 have BK212:=Aside0.mk hk2_;clear hk2_;have BK213:=Aside0.mk hk3_;clear hk3_;have BK214:=Aside0.mk hk4_;clear hk4_
 have H:((num_Div.f k (wrap64 ((wrap64 (a0*a2))+(wrap64 (a1*a3)))) a4).bind fun t215=>(some t215))=some r:=h
 clear h;replace H:=Option.bind_eq_some_iff.mp H;obtain ⟨t215,A60,H⟩:=H;replace H:(some t215)=some r:=H;have A6:=Aside0.mk A60;clear A60;obtain rfl:=Option.some.inj H;have hcz9_0:w.cell? ⟨g2_,0,none⟩=some (.int .i64 a2):=(blk_cell BK212.out 0).trans rfl;have hfz9_0:=blk_frozen BK212.out 0;have hcz11_0:w.cell? ⟨g3_,0,none⟩=some (.int .i64 a3):=(blk_cell BK213.out 0).trans rfl;have hfz11_0:=blk_frozen BK213.out 0;have hcz12_0:w.cell? ⟨g4_,0,none⟩=some (.int .i64 a4):=(blk_cell BK214.out 0).trans rfl;have hfz12_0:=blk_frozen BK214.out 0
 go_enter Try.func60,Try.ntmps60
 go_wp2_with (first|((with_reducible refine gate_callee (f:=46) rfl ?_);refine goesL_ (some 16) rfl rfl Try.func46 (by kernel_rfl) rfl #[.int .i64 (wrap64 ((wrap64 (a0*a2))+(wrap64 (a1*a3)))),.int .i64 a4] rfl (by (try simp only [mA_,mC_,mN_]);first|done|rfl|(simp only [dL_,kL_];rfl)) ?_;(with_reducible refine (num_Div.calls k (wrap64 ((wrap64 (a0*a2))+(wrap64 (a1*a3)))) a4 t215 _ A6.out).mono ?_);rintro e w' ⟨rfl,⟨nd,rfl⟩⟩;refine ⟨_,rfl,?_⟩))
 go_ret
 exact ⟨by first|rfl|(simp;done)|(simp [*];done),by repeat (first|exact Drawn0.refl _|apply Drawn0.step)⟩

end Go.Proofs.Ytmlcobnidfkhfaa.Q
