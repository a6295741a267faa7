/- Each Go function of the law as a Lean function, with the proof that its call comes to just that, for every input; written by hp.py, a program of this session over the kit own print of the translation. -/
import Derived.Test.YtmlcobnidfkhfaaQ0
import Derived.Test.YtmlcobnidfkhfaaQ1
import Derived.Test.YtmlcobnidfkhfaaQ4
import Derived.Test.YtmlcobnidfkhfaaQ7
namespace Go.Proofs.Ytmlcobnidfkhfaa.Q
open Go.RowKit Go.Proofs.YtmlcobnidfkhfaaW.PrintWords Go.Proofs.YtmlcobnidfkhfaaW.PrintLast Go.Proofs.YtmlcobnidfkhfaaW.PrintMore
attribute [local go_sem] max2_int min2_int max_two min_two max_three min_three max_four min_four   -- for this text's walks alone
set_option linter.unusedVariables false
set_option linter.unusedSimpArgs false
open Go.Proofs.Ytmlcobnidfkhfaa.Clo Go.Proofs.Ytmlcobnidfkhfaa.Mk0

attribute [local go_sem high] eqA38
/-! ### gr_Place: function 14 -/
def gr_Place.f (k:Nat) (a0:Int) (l1:List Int) (a2:Int) (a3:Int) (a4:Int):Option (Int):=(gr_params.f k a0 l1 a2).bind fun bt177=>(if bt177.1=0 then (if bt177.2.1=0 then (if bt177.2.2=0 then ((gr_place.f k a0 l1 a2 a3 a4).bind fun t180=>(some t180)) else (some 0)) else (some 0)) else (some 0))
theorem gr_Place.mono:∀ a0 a1 a2 a3 a4 k,LeO (gr_Place.f k a0 a1 a2 a3 a4) (gr_Place.f (k+1) a0 a1 a2 a3 a4):=by
 intro a0 a1 a2 a3 a4 k
 unfold gr_Place.f
 repeat' first
   | (with_reducible exact gr_params.mono _ _ _ _)
   | (with_reducible exact gr_place.mono _ _ _ _ _ _)
   | (with_reducible exact LeO.refl _)
   | (with_reducible exact LeO.none _)
   | (with_reducible refine LeO.ite ?_ ?_)
   | (with_reducible refine LeO.bind ?_ (fun _=>?_))
set_option maxHeartbeats 8000000 in
set_option maxRecDepth 100000 in
theorem gr_Place.calls (k:Nat) (a0:Int) (A1:Option Addr) (c1:Nat) (l1:List Int) (a2:Int) (a3:Int) (a4:Int) (r:Int) (w:World) (hr1:Kd.C (Kd.int .i64) w A1 l1.length l1) (hc1:l1.length≤c1) (h:gr_Place.f k a0 l1 a2 a3 a4=some r) :
  Calls Try.prog 14 #[.int .i64 a0,.slice A1 l1.length c1,.int .i64 a2,.int .i64 a3,.int .i64 a4] w fun e w'=>e = .returned (.int .i64 r)∧Below w.heap.size w w':=by
 have HR1:=Aside0.mk hr1;have HC1:=Aside0.mk hc1;clear hr1 hc1;have HB:=Aside0.mk (Below.refl w.heap.size w)
 have H:((gr_params.f k a0 l1 a2).bind fun bt177=>(if bt177.1=0 then (if bt177.2.1=0 then (if bt177.2.2=0 then ((gr_place.f k a0 l1 a2 a3 a4).bind fun t180=>(some t180)) else (some 0)) else (some 0)) else (some 0)))=some r:=h
 clear h;replace H:=Option.bind_eq_some_iff.mp H;obtain ⟨⟨t177,t178,t179⟩,A60,H⟩:=H
 replace H:(if t177=0 then (if t178=0 then (if t179=0 then ((gr_place.f k a0 l1 a2 a3 a4).bind fun t180=>(some t180)) else (some 0)) else (some 0)) else (some 0))=some r:=H
 have A6:=Aside0.mk A60;clear A60;by_cases c7:t177=0
 ·rw [if_pos c7] at H
  have c7b0:=beq_iff_eq.mpr c7;have c7b1:=bne_eq_false_iff_eq.mpr c7;clear c7;by_cases c8:t178=0
  ·rw [if_pos c8] at H
   have c8b0:=beq_iff_eq.mpr c8;have c8b1:=bne_eq_false_iff_eq.mpr c8;clear c8;by_cases c9:t179=0
   ·rw [if_pos c9] at H
    have c9b0:=beq_iff_eq.mpr c9;have c9b1:=bne_eq_false_iff_eq.mpr c9;clear c9;replace H:=Option.bind_eq_some_iff.mp H;obtain ⟨t180,A100,H⟩:=H;replace H:(some t180)=some r:=H;have A10:=Aside0.mk A100;clear A100;obtain rfl:=Option.some.inj H
    go_enter Try.func14,Try.ntmps14
    go_wp2_with (first|((with_reducible refine gate_callee (f:=25) rfl ?_);refine goesL_ (some 18) rfl rfl Try.func25 (by kernel_rfl) rfl #[.int .i64 a0,.slice A1 l1.length c1,.int .i64 a2] rfl (by (try simp only [mA_,mC_,mN_]);first|done|rfl|(simp only [dL_,kL_];rfl)) ?_;(with_reducible refine (gr_params.calls k a0 _ _ l1 a2 t177 t178 t179 _ ?side1 ?side2 A6.out).mono ?_);(case side1=>repeat (first|exact HR1.out|(with_reducible refine Kd.C_alloc ?_ _)|(with_reducible refine Kd.C_drewN ?_ _)|(with_reducible refine Kd.C_drew ?_)));(case side2=>exact HC1.out);rintro e w' ⟨rfl,⟨nd,rfl⟩⟩;refine ⟨_,rfl,?_⟩)|((with_reducible refine gate_callee (f:=26) rfl ?_);refine goesL_ (some 37) rfl rfl Try.func26 (by kernel_rfl) rfl #[.int .i64 a0,.slice A1 l1.length c1,.int .i64 a2,.int .i64 a3,.int .i64 a4] rfl (by (try simp only [mA_,mC_,mN_]);first|done|rfl|(simp only [dL_,kL_];rfl)) ?_;(with_reducible refine (gr_place.calls k a0 _ _ l1 a2 a3 a4 t180 _ ?side1 ?side2 A10.out).mono ?_);(case side1=>repeat (first|exact HR1.out|(with_reducible refine Kd.C_alloc ?_ _)|(with_reducible refine Kd.C_drewN ?_ _)|(with_reducible refine Kd.C_drew ?_)));(case side2=>exact HC1.out);rintro e w11 ⟨rfl,hb⟩;refine ⟨_,rfl,?_⟩;have n0_:=Aside0.mk (below_step (by repeat first|(with_reducible first|exact HB.out|apply lA_|apply lN_|apply lD_)|exact HB.out) hb);clear HB;have HB:=n0_;clear n0_;(try clear hb);(try clear hb2);(try clear hk);(try clear hi)))
    go_ret
    exact ⟨by first|rfl|(simp [errW_none,errW_some] <;> rfl)|(simp [*,errW_none,errW_some] <;> rfl),by repeat first|(with_reducible first|exact HB.out|apply lA_|apply lN_|apply lD_)|exact HB.out⟩
   rw [if_neg c9] at H;have c9b0:(t179==0)=false:=beq_eq_false_iff_ne.mpr c9;have c9b1:(t179 != 0)=true:=bne_iff_ne.mpr c9;obtain rfl:=Option.some.inj H
   go_enter Try.func14,Try.ntmps14
   go_wp2_with (first|((with_reducible refine gate_callee (f:=25) rfl ?_);refine goesL_ (some 18) rfl rfl Try.func25 (by kernel_rfl) rfl #[.int .i64 a0,.slice A1 l1.length c1,.int .i64 a2] rfl (by (try simp only [mA_,mC_,mN_]);first|done|rfl|(simp only [dL_,kL_];rfl)) ?_;(with_reducible refine (gr_params.calls k a0 _ _ l1 a2 t177 t178 t179 _ ?side1 ?side2 A6.out).mono ?_);(case side1=>repeat (first|exact HR1.out|(with_reducible refine Kd.C_alloc ?_ _)|(with_reducible refine Kd.C_drewN ?_ _)|(with_reducible refine Kd.C_drew ?_)));(case side2=>exact HC1.out);rintro e w' ⟨rfl,⟨nd,rfl⟩⟩;refine ⟨_,rfl,?_⟩))
   go_ret
   exact ⟨by first|rfl|(simp [errW_none,errW_some] <;> rfl)|(simp [*,errW_none,errW_some] <;> rfl),by repeat first|(with_reducible first|exact HB.out|apply lA_|apply lN_|apply lD_)|exact HB.out⟩
  rw [if_neg c8] at H;have c8b0:(t178==0)=false:=beq_eq_false_iff_ne.mpr c8;have c8b1:(t178 != 0)=true:=bne_iff_ne.mpr c8;obtain rfl:=Option.some.inj H
  go_enter Try.func14,Try.ntmps14
  go_wp2_with (first|((with_reducible refine gate_callee (f:=25) rfl ?_);refine goesL_ (some 18) rfl rfl Try.func25 (by kernel_rfl) rfl #[.int .i64 a0,.slice A1 l1.length c1,.int .i64 a2] rfl (by (try simp only [mA_,mC_,mN_]);first|done|rfl|(simp only [dL_,kL_];rfl)) ?_;(with_reducible refine (gr_params.calls k a0 _ _ l1 a2 t177 t178 t179 _ ?side1 ?side2 A6.out).mono ?_);(case side1=>repeat (first|exact HR1.out|(with_reducible refine Kd.C_alloc ?_ _)|(with_reducible refine Kd.C_drewN ?_ _)|(with_reducible refine Kd.C_drew ?_)));(case side2=>exact HC1.out);rintro e w' ⟨rfl,⟨nd,rfl⟩⟩;refine ⟨_,rfl,?_⟩))
  go_ret
  exact ⟨by first|rfl|(simp [errW_none,errW_some] <;> rfl)|(simp [*,errW_none,errW_some] <;> rfl),by repeat first|(with_reducible first|exact HB.out|apply lA_|apply lN_|apply lD_)|exact HB.out⟩
 rw [if_neg c7] at H;have c7b0:(t177==0)=false:=beq_eq_false_iff_ne.mpr c7;have c7b1:(t177 != 0)=true:=bne_iff_ne.mpr c7;obtain rfl:=Option.some.inj H
 go_enter Try.func14,Try.ntmps14
 go_wp2_with (first|((with_reducible refine gate_callee (f:=25) rfl ?_);refine goesL_ (some 18) rfl rfl Try.func25 (by kernel_rfl) rfl #[.int .i64 a0,.slice A1 l1.length c1,.int .i64 a2] rfl (by (try simp only [mA_,mC_,mN_]);first|done|rfl|(simp only [dL_,kL_];rfl)) ?_;(with_reducible refine (gr_params.calls k a0 _ _ l1 a2 t177 t178 t179 _ ?side1 ?side2 A6.out).mono ?_);(case side1=>repeat (first|exact HR1.out|(with_reducible refine Kd.C_alloc ?_ _)|(with_reducible refine Kd.C_drewN ?_ _)|(with_reducible refine Kd.C_drew ?_)));(case side2=>exact HC1.out);rintro e w' ⟨rfl,⟨nd,rfl⟩⟩;refine ⟨_,rfl,?_⟩))
 go_ret
 exact ⟨by first|rfl|(simp [errW_none,errW_some] <;> rfl)|(simp [*,errW_none,errW_some] <;> rfl),by repeat first|(with_reducible first|exact HB.out|apply lA_|apply lN_|apply lD_)|exact HB.out⟩

/-! ### pixel_unit: function 59 -/
def pixel_unit.f (a0:Int):Option (Int):=(num_Clamp.f a0 0 65535).bind fun t181=>(some t181)
set_option maxHeartbeats 8000000 in
set_option maxRecDepth 100000 in
theorem pixel_unit.calls (a0:Int) (r:Int) (w:World) (h:pixel_unit.f a0=some r) :
  Calls Try.prog 59 #[.int .i64 a0] w fun e w'=>e = .returned (.int .i64 r)∧Below w.heap.size w w':=by
 have HB:=Aside0.mk (Below.refl w.heap.size w)
 have H:((num_Clamp.f a0 0 65535).bind fun t181=>(some t181))=some r:=h
 clear h;replace H:=Option.bind_eq_some_iff.mp H;obtain ⟨t181,A20,H⟩:=H;replace H:(some t181)=some r:=H;have A2:=Aside0.mk A20;clear A20;obtain rfl:=Option.some.inj H
 go_enter Try.func59,Try.ntmps59
 go_wp2_with (first|((with_reducible refine gate_callee (f:=31) rfl ?_);refine goesL_ (some 4) rfl rfl Try.func31 (by kernel_rfl) rfl #[.int .i64 a0,.int .i64 0,.int .i64 65535] rfl (by (try simp only [mA_,mC_,mN_]);first|done|rfl|(simp only [dL_,kL_];rfl)) ?_;(with_reducible refine (num_Clamp.calls a0 0 65535 t181 _ A2.out).mono ?_);rintro e w3 ⟨rfl,hb⟩;refine ⟨_,rfl,?_⟩;have n0_:=Aside0.mk (below_step (by repeat first|(with_reducible first|exact HB.out|apply lA_|apply lN_|apply lD_)|exact HB.out) hb);clear HB;have HB:=n0_;clear n0_;(try clear hb);(try clear hb2);(try clear hk);(try clear hi)))
 go_ret
 exact ⟨by first|rfl|(simp [errW_none,errW_some] <;> rfl)|(simp [*,errW_none,errW_some] <;> rfl),by repeat first|(with_reducible first|exact HB.out|apply lA_|apply lN_|apply lD_)|exact HB.out⟩

/-! ### pixel_Limit: function 58 -/
def pixel_Limit.f (a0_0:Int) (a0_1:Int) (a0_2:Int) (a0_3:Int):Option (Int × Int × Int × Int):=(pixel_unit.f a0_0).bind fun t184=>((pixel_unit.f a0_1).bind fun t185=>((pixel_unit.f a0_2).bind fun t186=>((pixel_unit.f a0_3).bind fun t187=>(some (t184,t185,t186,t187)))))
def pixel_Limit.T1:Bool × List (List Nat × List Nat):=(true,[([],[]),([0],[0]),([1],[1]),([],[]),([3],[3]),([4,2],[4]),([],[]),([6],[6]),([7,5],[7]),([],[]),([9],[9]),([10,8],[10]),([2,5,8,11],[2,5,8,11]),([12,11,0,1,2,3,4,5,6,7,8,9,10,11,12],[12])])
def pixel_Limit.B1:List Nat:=[0,1,3,0,8,31,0,64,255,0,512,2047,4095,8191]
theorem pixel_Limit.tab1:rtab .any (opsOf Try.f58 1)=pixel_Limit.T1:=by kernel_rfl
theorem pixel_Limit.bits1:waitsOk pixel_Limit.T1.2 pixel_Limit.B1=true:=by kernel_rfl
set_option maxHeartbeats 8000000 in
set_option maxRecDepth 100000 in
theorem pixel_Limit.calls (a0_0:Int) (a0_1:Int) (a0_2:Int) (a0_3:Int) (r1:Int) (r2:Int) (r3:Int) (r4:Int) (w:World) (h:pixel_Limit.f a0_0 a0_1 a0_2 a0_3=some (r1,r2,r3,r4)) :
  Calls Try.prog 58 #[.agg #[.int .i64 a0_0,.int .i64 a0_1,.int .i64 a0_2,.int .i64 a0_3]] w fun e w'=>e = .returned (.agg #[.int .i64 r1,.int .i64 r2,.int .i64 r3,.int .i64 r4])∧Below w.heap.size w w':=by
 have hu38:=Try.underlying38;have HB:=Aside0.mk (Below.refl w.heap.size w)
 have H:((pixel_unit.f a0_0).bind fun t184=>((pixel_unit.f a0_1).bind fun t185=>((pixel_unit.f a0_2).bind fun t186=>((pixel_unit.f a0_3).bind fun t187=>(some (t184,t185,t186,t187))))))=some (r1,r2,r3,r4):=h
 clear h;replace H:=Option.bind_eq_some_iff.mp H;obtain ⟨t184,A20,H⟩:=H
 replace H:((pixel_unit.f a0_1).bind fun t185=>((pixel_unit.f a0_2).bind fun t186=>((pixel_unit.f a0_3).bind fun t187=>(some (t184,t185,t186,t187)))))=some (r1,r2,r3,r4):=H
 have A2:=Aside0.mk A20;clear A20;replace H:=Option.bind_eq_some_iff.mp H;obtain ⟨t185,A30,H⟩:=H
 replace H:((pixel_unit.f a0_2).bind fun t186=>((pixel_unit.f a0_3).bind fun t187=>(some (t184,t185,t186,t187))))=some (r1,r2,r3,r4):=H
 have A3:=Aside0.mk A30;clear A30;replace H:=Option.bind_eq_some_iff.mp H;obtain ⟨t186,A40,H⟩:=H
 replace H:((pixel_unit.f a0_3).bind fun t187=>(some (t184,t185,t186,t187)))=some (r1,r2,r3,r4):=H
 have A4:=Aside0.mk A40;clear A40;replace H:=Option.bind_eq_some_iff.mp H;obtain ⟨t187,A50,H⟩:=H;replace H:(some (t184,t185,t186,t187))=some (r1,r2,r3,r4):=H;have A5:=Aside0.mk A50;clear A50;simp only [Option.some.injEq,Prod.mk.injEq] at H;obtain ⟨rfl,rfl,rfl,rfl⟩:=H
 go_enter Try.func58,Try.ntmps58
 try go_wp2_with (first|((with_reducible refine gate_dst (N:=1) rfl ?_);refine box_event ?hg (N:=1) ?hd (cs:=#[.int .i64 a0_0,.int .i64 a0_1,.int .i64 a0_2,.int .i64 a0_3]) (t:=38) ?hr ?_;(case hd=>rfl);(case hg=>rfl);(case hr=>first|(go_simp;done)|(go_simp;rfl));intro gb182 hg w6 hbox hb;have n0_:=Aside0.mk (below_step (by repeat first|(with_reducible first|exact HB.out|apply lA_|apply lN_|apply lD_)|exact HB.out) hb);have n1_:=Aside0.mk (hbox);have n2_:=Aside0.mk ((by rw [hg];exact (below_size (by repeat first|(with_reducible first|exact HB.out|apply lA_|apply lN_|apply lD_)|exact HB.out)):w.heap.size≤gb182));have n3_:=Aside0.mk ((by rw [hg];exact (below_size (by repeat first|(with_reducible first|exact HB.out|apply lA_|apply lN_|apply lD_)|exact HB.out)):w.heap.size≤gb182));clear HB;have HB:=n0_;have BK182:=n1_;have GW182:=n2_;have GE182:=n3_;clear n0_ n1_ n2_ n3_;clear hb hbox hg)|((with_reducible refine gate_dst (N:=2) rfl ?_);refine box_event ?hg (N:=2) ?hd (cs:=#[.int .i64 0,.int .i64 0,.int .i64 0,.int .i64 0]) (t:=38) ?hr ?_;(case hd=>rfl);(case hg=>rfl);(case hr=>first|(go_simp;done)|(go_simp;rfl));intro gb183 hg w7 hbox hb;have n0_:=Aside0.mk (blk_below (by (with_reducible repeat first|apply bN_|apply bD_|apply bA_);exact BK182.out) hb);have n1_:=Aside0.mk (below_step (by repeat first|(with_reducible first|exact HB.out|apply lA_|apply lN_|apply lD_|refine lS_ ?_ GE182.out)|exact HB.out) hb);have n2_:=Aside0.mk (hbox);have n3_:=Aside0.mk ((by rw [hg];exact (below_size (by repeat first|(with_reducible first|exact HB.out|apply lA_|apply lN_|apply lD_|refine lS_ ?_ GE182.out)|exact HB.out)):w.heap.size≤gb183));have n4_:=Aside0.mk ((by rw [hg];exact (below_size (by repeat first|(with_reducible first|exact HB.out|apply lA_|apply lN_|apply lD_|refine lS_ ?_ GE182.out)|exact HB.out)):w.heap.size≤gb183));have n5_:=Aside0.mk ((by rw [hg];exact Nat.ne_of_lt (blk_lt (g:=gb182) (o:=.cells #[.int .i64 a0_0,.int .i64 a0_1,.int .i64 a0_2,.int .i64 a0_3] 38 (0,0)) (by (with_reducible repeat first|apply bN_|apply bD_|apply bA_);exact BK182.out)):gb182 ≠ gb183));have n6_:=Aside0.mk ((by rw [hg];exact Nat.ne_of_gt (blk_lt (g:=gb182) (o:=.cells #[.int .i64 a0_0,.int .i64 a0_1,.int .i64 a0_2,.int .i64 a0_3] 38 (0,0)) (by (with_reducible repeat first|apply bN_|apply bD_|apply bA_);exact BK182.out)):gb183 ≠ gb182));clear BK182;clear HB;have BK182:=n0_;have HB:=n1_;have BK183:=n2_;have GW183:=n3_;have GE183:=n4_;have NB182_183:=n5_;have NB183_182:=n6_;clear n0_ n1_ n2_ n3_ n4_ n5_ n6_;clear hb hbox hg))
 have n0_:=Aside0.mk (blk_drew BK182.out);have n1_:=Aside0.mk (blk_drew BK183.out);have n2_:=Aside0.mk (below_drew1 HB.out);clear BK182;clear BK183;clear HB;have BK182:=n0_;have BK183:=n1_;have HB:=n2_;clear n0_ n1_ n2_
 refine start_ (n:=14) (S:=fun w'=>w'.cell? ⟨gb182,0,none⟩=some (.int .i64 a0_0)∧w'.cell? ⟨gb182,1,none⟩=some (.int .i64 a0_1)∧w'.cell? ⟨gb182,2,none⟩=some (.int .i64 a0_2)∧w'.cell? ⟨gb182,3,none⟩=some (.int .i64 a0_3)) (ds:=[]) #[F_,F_,F_,F_,F_,F_,F_,F_,F_,F_,F_,F_,F_,F_] (by kernel_rfl) rfl rfl ⟨(blk_cell BK182.out 0).trans rfl,(blk_cell BK182.out 1).trans rfl,(blk_cell BK182.out 2).trans rfl,(blk_cell BK182.out 3).trans rfl⟩ (fun hHeld=>?_);refine with_tabW pixel_Limit.tab1 pixel_Limit.bits1 (fun HT_ HW_=>?_)
 generalize w7.drew=w8 at BK182 BK183 HB hHeld ⊢
 refine pure_ (i:=0) (N:=some 3) (v:=?_) (a':=?_) #[T_,F_,F_,F_,F_,F_,F_,F_,F_,F_,F_,F_,F_,F_] rfl rfl (any_of HT_.out (by kernel_rfl)) (fun _ _ _ h=>h) (Or.inl ⟨by rfl,?_⟩) ?_ ?_
 rotate_left
 ·intro w'
  go_simp
  with_reducible rfl
 rotate_left
 ·simp only [Act.put,tS_,tZ_,tC_,i64_w,i32_w]
  rfl
 refine pure_ (i:=3) (N:=some 6) (v:=?_) (a':=?_) #[T_,F_,F_,T_,F_,F_,F_,F_,F_,F_,F_,F_,F_,F_] rfl rfl (any_of HT_.out (by kernel_rfl)) (fun _ _ _ h=>h) (Or.inl ⟨by rfl,?_⟩) ?_ ?_
 rotate_left
 ·intro w'
  go_simp
  with_reducible rfl
 rotate_left
 ·simp only [Act.put,tS_,tZ_,tC_,i64_w,i32_w]
  rfl
 refine pure_ (i:=6) (N:=some 9) (v:=?_) (a':=?_) #[T_,F_,F_,T_,F_,F_,T_,F_,F_,F_,F_,F_,F_,F_] rfl rfl (any_of HT_.out (by kernel_rfl)) (fun _ _ _ h=>h) (Or.inl ⟨by rfl,?_⟩) ?_ ?_
 rotate_left
 ·intro w'
  go_simp
  with_reducible rfl
 rotate_left
 ·simp only [Act.put,tS_,tZ_,tC_,i64_w,i32_w]
  rfl
 refine pure_ (i:=9) (N:=some 12) (v:=?_) (a':=?_) #[T_,F_,F_,T_,F_,F_,T_,F_,F_,T_,F_,F_,F_,F_] rfl rfl (any_of HT_.out (by kernel_rfl)) (fun _ _ _ h=>h) (Or.inl ⟨by rfl,?_⟩) ?_ ?_
 rotate_left
 ·intro w'
  go_simp
  with_reducible rfl
 rotate_left
 ·simp only [Act.put,tS_,tZ_,tC_,i64_w,i32_w]
  rfl
 refine take_ (i:=1) (N:=some 4) (v:=?_) (a':=?_) #[T_,T_,F_,T_,F_,F_,T_,F_,F_,T_,F_,F_,F_,F_] rfl rfl (take_ofW HT_.out HW_.out (by kernel_rfl)) (fun _ _ _ h=>h) (Or.inl ⟨by rfl,?_⟩) hHeld ?_ ?_
 rotate_left
 ·rintro w' ⟨s0,s1,s2,s3⟩
  go_simp
  with_reducible rfl
 rotate_left
 ·simp only [Act.put,tS_,tZ_,tC_,i64_w,i32_w]
  rfl
 refine take_ (i:=4) (N:=some 7) (v:=?_) (a':=?_) #[T_,T_,F_,T_,T_,F_,T_,F_,F_,T_,F_,F_,F_,F_] rfl rfl (take_ofW HT_.out HW_.out (by kernel_rfl)) (fun _ _ _ h=>h) (Or.inl ⟨by rfl,?_⟩) hHeld ?_ ?_
 rotate_left
 ·rintro w' ⟨s0,s1,s2,s3⟩
  go_simp
  with_reducible rfl
 rotate_left
 ·simp only [Act.put,tS_,tZ_,tC_,i64_w,i32_w]
  rfl
 refine take_ (i:=7) (N:=some 10) (v:=?_) (a':=?_) #[T_,T_,F_,T_,T_,F_,T_,T_,F_,T_,F_,F_,F_,F_] rfl rfl (take_ofW HT_.out HW_.out (by kernel_rfl)) (fun _ _ _ h=>h) (Or.inl ⟨by rfl,?_⟩) hHeld ?_ ?_
 rotate_left
 ·rintro w' ⟨s0,s1,s2,s3⟩
  go_simp
  with_reducible rfl
 rotate_left
 ·simp only [Act.put,tS_,tZ_,tC_,i64_w,i32_w]
  rfl
 refine take_ (i:=10) (N:=some 13) (v:=?_) (a':=?_) #[T_,T_,F_,T_,T_,F_,T_,T_,F_,T_,T_,F_,F_,F_] rfl rfl (take_ofW HT_.out HW_.out (by kernel_rfl)) (fun _ _ _ h=>h) (Or.inl ⟨by rfl,?_⟩) hHeld ?_ ?_
 rotate_left
 ·rintro w' ⟨s0,s1,s2,s3⟩
  go_simp
  with_reducible rfl
 rotate_left
 ·simp only [Act.put,tS_,tZ_,tC_,i64_w,i32_w]
  rfl
 refine one_ (i:=2) (N:=some 5) #[T_,T_,T_,T_,T_,F_,T_,T_,F_,T_,T_,F_,F_,F_] rfl rfl (one_of HT_.out (by kernel_rfl)) (by decide) (fun K hK=>?_)
 refine goes_ Try.func59 (by kernel_rfl) rfl #[.int .i64 a0_0] (by rfl) rfl rfl (by (try simp only [mA_,mC_,mN_]);first|done|rfl|(simp only [dL_,kL_];rfl)) ?_
 with_reducible refine (pixel_unit.calls a0_0 t184 _ A2.out).mono ?_
 rintro e w9 ⟨rfl,hb⟩;refine ⟨_,rfl,?_⟩
 have n0_:=Aside0.mk (blk_below (by (with_reducible repeat first|apply bN_|apply bD_|apply bA_);exact BK182.out) hb)
 have n1_:=Aside0.mk (blk_below (by (with_reducible repeat first|apply bN_|apply bD_|apply bA_);exact BK183.out) hb)
 have n2_:=Aside0.mk (below_step (by repeat first|(with_reducible first|exact HB.out|apply lA_|apply lN_|apply lD_|refine lS_ ?_ GE182.out|refine lS_ ?_ GE183.out)|exact HB.out) hb)
 clear BK182;clear BK183;clear HB;have BK182:=n0_;have BK183:=n1_;have HB:=n2_;clear n0_ n1_ n2_
 (try clear hb)
 (try clear hb2)
 (try clear hk)
 (try clear hi)
 refine hK.out _ _ ⟨(blk_cell BK182.out 0).trans rfl,(blk_cell BK182.out 1).trans rfl,(blk_cell BK182.out 2).trans rfl,(blk_cell BK182.out 3).trans rfl⟩ (fun hHeld=>?_)
 clear hK K;refine norm_ (a':=?_) ?_ ?_;rotate_left
 ·show Act.put _ (some 5) _=_
  simp only [Act.put,tS_,tZ_,tC_,i64_w,i32_w];rfl
 refine one_ (i:=5) (N:=some 8) #[T_,T_,T_,T_,T_,T_,T_,T_,F_,T_,T_,F_,F_,F_] rfl rfl (one_of HT_.out (by kernel_rfl)) (by decide) (fun K hK=>?_)
 refine goes_ Try.func59 (by kernel_rfl) rfl #[.int .i64 a0_1] (by rfl) rfl rfl (by (try simp only [mA_,mC_,mN_]);first|done|rfl|(simp only [dL_,kL_];rfl)) ?_
 with_reducible refine (pixel_unit.calls a0_1 t185 _ A3.out).mono ?_
 rintro e w10 ⟨rfl,hb⟩;refine ⟨_,rfl,?_⟩
 have n0_:=Aside0.mk (blk_below (by (with_reducible repeat first|apply bN_|apply bD_|apply bA_);exact BK182.out) hb)
 have n1_:=Aside0.mk (blk_below (by (with_reducible repeat first|apply bN_|apply bD_|apply bA_);exact BK183.out) hb)
 have n2_:=Aside0.mk (below_step (by repeat first|(with_reducible first|exact HB.out|apply lA_|apply lN_|apply lD_|refine lS_ ?_ GE182.out|refine lS_ ?_ GE183.out)|exact HB.out) hb)
 clear BK182;clear BK183;clear HB;have BK182:=n0_;have BK183:=n1_;have HB:=n2_;clear n0_ n1_ n2_
 (try clear hb)
 (try clear hb2)
 (try clear hk)
 (try clear hi)
 refine hK.out _ _ ⟨(blk_cell BK182.out 0).trans rfl,(blk_cell BK182.out 1).trans rfl,(blk_cell BK182.out 2).trans rfl,(blk_cell BK182.out 3).trans rfl⟩ (fun hHeld=>?_)
 clear hK K;refine norm_ (a':=?_) ?_ ?_;rotate_left
 ·show Act.put _ (some 8) _=_
  simp only [Act.put,tS_,tZ_,tC_,i64_w,i32_w];rfl
 refine one_ (i:=8) (N:=some 11) #[T_,T_,T_,T_,T_,T_,T_,T_,T_,T_,T_,F_,F_,F_] rfl rfl (one_of HT_.out (by kernel_rfl)) (by decide) (fun K hK=>?_)
 refine goes_ Try.func59 (by kernel_rfl) rfl #[.int .i64 a0_2] (by rfl) rfl rfl (by (try simp only [mA_,mC_,mN_]);first|done|rfl|(simp only [dL_,kL_];rfl)) ?_
 with_reducible refine (pixel_unit.calls a0_2 t186 _ A4.out).mono ?_
 rintro e w11 ⟨rfl,hb⟩;refine ⟨_,rfl,?_⟩
 have n0_:=Aside0.mk (blk_below (by (with_reducible repeat first|apply bN_|apply bD_|apply bA_);exact BK182.out) hb)
 have n1_:=Aside0.mk (blk_below (by (with_reducible repeat first|apply bN_|apply bD_|apply bA_);exact BK183.out) hb)
 have n2_:=Aside0.mk (below_step (by repeat first|(with_reducible first|exact HB.out|apply lA_|apply lN_|apply lD_|refine lS_ ?_ GE182.out|refine lS_ ?_ GE183.out)|exact HB.out) hb)
 clear BK182;clear BK183;clear HB;have BK182:=n0_;have BK183:=n1_;have HB:=n2_;clear n0_ n1_ n2_
 (try clear hb)
 (try clear hb2)
 (try clear hk)
 (try clear hi)
 refine hK.out _ _ ⟨(blk_cell BK182.out 0).trans rfl,(blk_cell BK182.out 1).trans rfl,(blk_cell BK182.out 2).trans rfl,(blk_cell BK182.out 3).trans rfl⟩ (fun hHeld=>?_)
 clear hK K;refine norm_ (a':=?_) ?_ ?_;rotate_left
 ·show Act.put _ (some 11) _=_
  simp only [Act.put,tS_,tZ_,tC_,i64_w,i32_w];rfl
 refine one_ (i:=11) (N:=some 14) #[T_,T_,T_,T_,T_,T_,T_,T_,T_,T_,T_,T_,F_,F_] rfl rfl (one_of HT_.out (by kernel_rfl)) (by decide) (fun K hK=>?_)
 refine goes_ Try.func59 (by kernel_rfl) rfl #[.int .i64 a0_3] (by rfl) rfl rfl (by (try simp only [mA_,mC_,mN_]);first|done|rfl|(simp only [dL_,kL_];rfl)) ?_
 with_reducible refine (pixel_unit.calls a0_3 t187 _ A5.out).mono ?_
 rintro e w12 ⟨rfl,hb⟩;refine ⟨_,rfl,?_⟩
 have n0_:=Aside0.mk (blk_below (by (with_reducible repeat first|apply bN_|apply bD_|apply bA_);exact BK182.out) hb)
 have n1_:=Aside0.mk (blk_below (by (with_reducible repeat first|apply bN_|apply bD_|apply bA_);exact BK183.out) hb)
 have n2_:=Aside0.mk (below_step (by repeat first|(with_reducible first|exact HB.out|apply lA_|apply lN_|apply lD_|refine lS_ ?_ GE182.out|refine lS_ ?_ GE183.out)|exact HB.out) hb)
 clear BK182;clear BK183;clear HB;have BK182:=n0_;have BK183:=n1_;have HB:=n2_;clear n0_ n1_ n2_
 (try clear hb)
 (try clear hb2)
 (try clear hk)
 (try clear hi)
 refine hK.out _ _ ⟨(blk_cell BK182.out 0).trans rfl,(blk_cell BK182.out 1).trans rfl,(blk_cell BK182.out 2).trans rfl,(blk_cell BK182.out 3).trans rfl⟩ (fun hHeld=>?_)
 clear hK K;refine norm_ (a':=?_) ?_ ?_;rotate_left
 ·show Act.put _ (some 14) _=_
  simp only [Act.put,tS_,tZ_,tC_,i64_w,i32_w];rfl
 refine pure_ (i:=12) (N:=some 15) (v:=?_) (a':=?_) #[T_,T_,T_,T_,T_,T_,T_,T_,T_,T_,T_,T_,T_,F_] rfl rfl (any_of HT_.out (by kernel_rfl)) (fun _ _ _ h=>h) (Or.inl ⟨by rfl,?_⟩) ?_ ?_
 rotate_left
 ·intro w'
  go_simp
  with_reducible rfl
 rotate_left
 ·simp only [Act.put,tS_,tZ_,tC_,i64_w,i32_w]
  rfl
 refine one_ (i:=13) (N:=none) #[T_,T_,T_,T_,T_,T_,T_,T_,T_,T_,T_,T_,T_,T_] rfl rfl (one_of HT_.out (by kernel_rfl)) (by decide) (fun K hK=>?_)
 have hs13:w12.cell? ⟨gb183,0,none⟩=some (.int .i64 0):=(blk_cell BK183.out 0).trans rfl;have hfs13:=blk_frozen BK183.out 0;have hns13_0:=NB182_183.out;have hms13_0:=NB183_182.out;have hs14:w12.cell? ⟨gb183,1,none⟩=some (.int .i64 0):=(blk_cell BK183.out 1).trans rfl;have hfs14:=blk_frozen BK183.out 1;have hns14_0:=NB182_183.out;have hms14_0:=NB183_182.out;have hs15:w12.cell? ⟨gb183,2,none⟩=some (.int .i64 0):=(blk_cell BK183.out 2).trans rfl;have hfs15:=blk_frozen BK183.out 2;have hns15_0:=NB182_183.out;have hms15_0:=NB183_182.out;have hs16:w12.cell? ⟨gb183,3,none⟩=some (.int .i64 0):=(blk_cell BK183.out 3).trans rfl;have hfs16:=blk_frozen BK183.out 3;have hns16_0:=NB182_183.out;have hms16_0:=NB183_182.out
 refine skip_ (w1:=?_) (by rfl) rfl ?_ ?_
 rotate_left
 ·go_simp
  rfl
 refine hK.out _ _ ⟨((cell_far (p:=⟨gb183,_,none⟩) NB182_183.out _).trans (((cell_far (p:=⟨gb183,_,none⟩) NB182_183.out _).trans (((cell_far (p:=⟨gb183,_,none⟩) NB182_183.out _).trans (((cell_far (p:=⟨gb183,_,none⟩) NB182_183.out _).trans (hHeld.1)))))))),((cell_far (p:=⟨gb183,_,none⟩) NB182_183.out _).trans (((cell_far (p:=⟨gb183,_,none⟩) NB182_183.out _).trans (((cell_far (p:=⟨gb183,_,none⟩) NB182_183.out _).trans (((cell_far (p:=⟨gb183,_,none⟩) NB182_183.out _).trans (hHeld.2.1)))))))),((cell_far (p:=⟨gb183,_,none⟩) NB182_183.out _).trans (((cell_far (p:=⟨gb183,_,none⟩) NB182_183.out _).trans (((cell_far (p:=⟨gb183,_,none⟩) NB182_183.out _).trans (((cell_far (p:=⟨gb183,_,none⟩) NB182_183.out _).trans (hHeld.2.2.1)))))))),((cell_far (p:=⟨gb183,_,none⟩) NB182_183.out _).trans (((cell_far (p:=⟨gb183,_,none⟩) NB182_183.out _).trans (((cell_far (p:=⟨gb183,_,none⟩) NB182_183.out _).trans (((cell_far (p:=⟨gb183,_,none⟩) NB182_183.out _).trans (hHeld.2.2.2))))))))⟩ (fun hHeld=>?_)
 clear hK K
 refine done_ (done_of HT_.out (by kernel_rfl)) ?_
 try go_wp2
 refine bodyPost_ret (results_cell_row rfl _ _ gb183 38 #[.int .i64 t184,.int .i64 t185,.int .i64 t186,.int .i64 t187] (0,0) _ rfl (by (with_reducible repeat first|apply bN_|apply bD_|apply bA_);refine blk_put (cs:=#[.int .i64 t184,.int .i64 t185,.int .i64 t186,.int .i64 0]) ?_ 3 _ rfl;(with_reducible repeat first|apply bN_|apply bD_|apply bA_);refine blk_put (cs:=#[.int .i64 t184,.int .i64 t185,.int .i64 0,.int .i64 0]) ?_ 2 _ rfl;(with_reducible repeat first|apply bN_|apply bD_|apply bA_);refine blk_put (cs:=#[.int .i64 t184,.int .i64 0,.int .i64 0,.int .i64 0]) ?_ 1 _ rfl;(with_reducible repeat first|apply bN_|apply bD_|apply bA_);refine blk_put (cs:=#[.int .i64 0,.int .i64 0,.int .i64 0,.int .i64 0]) ?_ 0 _ rfl;(with_reducible repeat first|apply bN_|apply bD_|apply bA_);exact BK183.out) Try.underlying38 rfl (by kernel_rfl)) rfl ?_
 exact ⟨by first|rfl|(simp [errW_none,errW_some] <;> rfl)|(simp [*,errW_none,errW_some] <;> rfl),by repeat first|(with_reducible first|exact HB.out|apply lA_|apply lN_|apply lD_|refine lS_ ?_ GE182.out|refine lS_ ?_ GE183.out)|exact HB.out⟩

/-! ### pixel_Valid: function 47 -/
def pixel_Valid.f (a0_0:Int) (a0_1:Int) (a0_2:Int) (a0_3:Int):Option (Bool):=(pixel_Limit.f a0_0 a0_1 a0_2 a0_3).bind fun bt189=>(some (a0_0==bt189.1&&(a0_1==bt189.2.1&&(a0_2==bt189.2.2.1&&(a0_3==bt189.2.2.2)))))
set_option maxHeartbeats 8000000 in
set_option maxRecDepth 100000 in
theorem pixel_Valid.calls (a0_0:Int) (a0_1:Int) (a0_2:Int) (a0_3:Int) (r:Bool) (w:World) (h:pixel_Valid.f a0_0 a0_1 a0_2 a0_3=some r) :
  Calls Try.prog 47 #[.agg #[.int .i64 a0_0,.int .i64 a0_1,.int .i64 a0_2,.int .i64 a0_3]] w fun e w'=>e = .returned (.bool r)∧Below w.heap.size w w':=by
 have hu38:=Try.underlying38;have HB:=Aside0.mk (Below.refl w.heap.size w)
 have H:((pixel_Limit.f a0_0 a0_1 a0_2 a0_3).bind fun bt189=>(some (a0_0==bt189.1&&(a0_1==bt189.2.1&&(a0_2==bt189.2.2.1&&(a0_3==bt189.2.2.2))))))=some r:=h
 clear h;replace H:=Option.bind_eq_some_iff.mp H;obtain ⟨⟨t189,t190,t191,t192⟩,A20,H⟩:=H;replace H:(some (a0_0==t189&&(a0_1==t190&&(a0_2==t191&&(a0_3==t192)))))=some r:=H;have A2:=Aside0.mk A20;clear A20;obtain rfl:=Option.some.inj H
 go_enter Try.func47,Try.ntmps47
 try go_wp2_with (first|((with_reducible refine gate_dst (N:=1) rfl ?_);refine box_event ?hg (N:=1) ?hd (cs:=#[.int .i64 a0_0,.int .i64 a0_1,.int .i64 a0_2,.int .i64 a0_3]) (t:=38) ?hr ?_;(case hd=>rfl);(case hg=>rfl);(case hr=>first|(go_simp;done)|(go_simp;rfl));intro gb188 hg w3 hbox hb;have n0_:=Aside0.mk (below_step (by repeat first|(with_reducible first|exact HB.out|apply lA_|apply lN_|apply lD_)|exact HB.out) hb);have n1_:=Aside0.mk (hbox);have n2_:=Aside0.mk ((by rw [hg];exact (below_size (by repeat first|(with_reducible first|exact HB.out|apply lA_|apply lN_|apply lD_)|exact HB.out)):w.heap.size≤gb188));have n3_:=Aside0.mk ((by rw [hg];exact (below_size (by repeat first|(with_reducible first|exact HB.out|apply lA_|apply lN_|apply lD_)|exact HB.out)):w.heap.size≤gb188));clear HB;have HB:=n0_;have BK188:=n1_;have GW188:=n2_;have GE188:=n3_;clear n0_ n1_ n2_ n3_;clear hb hbox hg))
 have n0_:=Aside0.mk (blk_drew BK188.out);have n1_:=Aside0.mk (below_drew1 HB.out);clear BK188;clear HB;have BK188:=n0_;have HB:=n1_;clear n0_ n1_
 refine start_ (n:=5) (S:=fun w'=>w'.cell? ⟨gb188,0,none⟩=some (.int .i64 a0_0)∧w'.cell? ⟨gb188,1,none⟩=some (.int .i64 a0_1)∧w'.cell? ⟨gb188,2,none⟩=some (.int .i64 a0_2)∧w'.cell? ⟨gb188,3,none⟩=some (.int .i64 a0_3)) (ds:=[]) #[F_,F_,F_,F_,F_] (by kernel_rfl) rfl rfl ⟨(blk_cell BK188.out 0).trans rfl,(blk_cell BK188.out 1).trans rfl,(blk_cell BK188.out 2).trans rfl,(blk_cell BK188.out 3).trans rfl⟩ (fun hHeld=>?_)
 generalize w3.drew=w4 at BK188 HB hHeld ⊢
 refine take_ (i:=0) (N:=some 3) (v:=?_) (a':=?_) #[T_,F_,F_,F_,F_] rfl rfl (by kernel_rfl) (fun _ _ _ h=>h) (Or.inl ⟨by rfl,?_⟩) hHeld ?_ ?_
 rotate_left
 ·rintro w' ⟨s0,s1,s2,s3⟩
  go_simp
  with_reducible rfl
 rotate_left
 ·simp only [Act.put,tS_,tZ_,tC_,i64_w,i32_w]
  rfl
 refine take_ (i:=1) (N:=some 4) (v:=?_) (a':=?_) #[T_,T_,F_,F_,F_] rfl rfl (by kernel_rfl) (fun _ _ _ h=>h) (Or.inl ⟨by rfl,?_⟩) hHeld ?_ ?_
 rotate_left
 ·rintro w' ⟨s0,s1,s2,s3⟩
  go_simp
  with_reducible rfl
 rotate_left
 ·simp only [Act.put,tS_,tZ_,tC_,i64_w,i32_w]
  rfl
 refine one_ (i:=2) (N:=some 5) #[T_,T_,T_,F_,F_] rfl rfl (by kernel_rfl) (by decide) (fun K hK=>?_)
 refine goes_ Try.func58 (by kernel_rfl) rfl #[.agg #[.int .i64 a0_0,.int .i64 a0_1,.int .i64 a0_2,.int .i64 a0_3]] (by rfl) rfl rfl (by (try simp only [mA_,mC_,mN_]);first|done|rfl|(simp only [dL_,kL_];rfl)) ?_
 with_reducible refine (pixel_Limit.calls a0_0 a0_1 a0_2 a0_3 t189 t190 t191 t192 _ A2.out).mono ?_
 rintro e w5 ⟨rfl,hb⟩;refine ⟨_,rfl,?_⟩
 have n0_:=Aside0.mk (blk_below (by (with_reducible repeat first|apply bN_|apply bD_|apply bA_);exact BK188.out) hb)
 have n1_:=Aside0.mk (below_step (by repeat first|(with_reducible first|exact HB.out|apply lA_|apply lN_|apply lD_|refine lS_ ?_ GE188.out)|exact HB.out) hb)
 clear BK188;clear HB;have BK188:=n0_;have HB:=n1_;clear n0_ n1_
 (try clear hb)
 (try clear hb2)
 (try clear hk)
 (try clear hi)
 refine hK.out _ _ ⟨(blk_cell BK188.out 0).trans rfl,(blk_cell BK188.out 1).trans rfl,(blk_cell BK188.out 2).trans rfl,(blk_cell BK188.out 3).trans rfl⟩ (fun hHeld=>?_)
 clear hK K;refine norm_ (a':=?_) ?_ ?_;rotate_left
 ·show Act.put _ (some 5) _=_
  simp only [Act.put,tS_,tZ_,tC_,i64_w,i32_w];rfl
 refine pure_ (i:=3) (N:=some 6) (v:=?_) (a':=?_) #[T_,T_,T_,T_,F_] rfl rfl (by kernel_rfl) (fun _ _ _ h=>h) (Or.inl ⟨by rfl,?_⟩) ?_ ?_
 rotate_left
 ·intro w'
  go_simp
  with_reducible rfl
 rotate_left
 ·simp only [Act.put,tS_,tZ_,tC_,i64_w,i32_w]
  rfl
 refine pure_ (i:=4) (N:=some 2) (v:=?_) (a':=?_) #[T_,T_,T_,T_,T_] rfl rfl (by kernel_rfl) (fun _ _ _ h=>h) (Or.inl ⟨by rfl,?_⟩) ?_ ?_
 rotate_left
 ·intro w'
  go_simp
  with_reducible rfl
 rotate_left
 ·simp only [Act.put,tS_,tZ_,tC_,i64_w,i32_w]
  rfl
 refine done_ (by kernel_rfl) ?_
 try go_wp2
 go_ret
 exact ⟨by first|rfl|(simp [errW_none,errW_some] <;> rfl)|(simp [*,errW_none,errW_some] <;> rfl),by repeat first|(with_reducible first|exact HB.out|apply lA_|apply lN_|apply lD_|refine lS_ ?_ GE188.out)|exact HB.out⟩

/-! ### gr_list: function 30 -/
mutual
def gr_list.l0:Nat→List (S47)→List (S47)→Int→Int→Option (Int)
 | 0,_,_,_,_=>none
 | k+1,x0,x5,x6,x7=>if x7<x6 then (if 0≤x7 then (if x7<(x5.length:Int) then (if ((rd_T47 x5 x7).f0)<0 then (gr_list.j1 k x0 x7 x5 x6 x7 true ((rd_T47 x5 x7).f0) ((rd_T47 x5 x7).f1.f0) ((rd_T47 x5 x7).f1.f1) ((rd_T47 x5 x7).f1.f2) ((rd_T47 x5 x7).f1.f3)) else (if ((rd_T47 x5 x7).f0)>65535 then (gr_list.j1 k x0 x7 x5 x6 x7 true ((rd_T47 x5 x7).f0) ((rd_T47 x5 x7).f1.f0) ((rd_T47 x5 x7).f1.f1) ((rd_T47 x5 x7).f1.f2) ((rd_T47 x5 x7).f1.f3)) else ((pixel_Valid.f ((rd_T47 x5 x7).f1.f0) ((rd_T47 x5 x7).f1.f1) ((rd_T47 x5 x7).f1.f2) ((rd_T47 x5 x7).f1.f3)).bind fun t195=>(gr_list.j1 k x0 x7 x5 x6 x7 (!t195) ((rd_T47 x5 x7).f0) ((rd_T47 x5 x7).f1.f0) ((rd_T47 x5 x7).f1.f1) ((rd_T47 x5 x7).f1.f2) ((rd_T47 x5 x7).f1.f3))))) else (none)) else (none)) else (some 0)
def gr_list.j1:Nat→List (S47)→Int→List (S47)→Int→Int→Bool→Int→Int→Int→Int→Int→Option (Int)
 | 0,_,_,_,_,_,_,_,_,_,_,_=>none
 | k+1,x0,x3,x5,x6,x7,x25,x195000,x195001,x195002,x195003,x195004=>if x25=true then (some 2) else (if x3>0 then (if 0≤(wrap64 (x3-1)) then (if (wrap64 (x3-1))<(x0.length:Int) then (if x195000≤((rd_T47 x0 (wrap64 (x3-1))).f0) then (some 24) else (gr_list.l0 k x0 x5 x6 (wrap64 (x7+1)))) else (none)) else (none)) else (gr_list.l0 k x0 x5 x6 (wrap64 (x7+1))))
end
def gr_list.f (k:Nat) (l0:List (S47)):Option (Int):=gr_list.l0 k l0 l0 (l0.length:Int) 0
theorem gr_list.mono_l:∀ k,(∀ y0 y1 y2 y3,LeO (gr_list.l0 k y0 y1 y2 y3) (gr_list.l0 (k+1) y0 y1 y2 y3))∧(∀ y0 y1 y2 y3 y4 y5 y6 y7 y8 y9 y10,LeO (gr_list.j1 k y0 y1 y2 y3 y4 y5 y6 y7 y8 y9 y10) (gr_list.j1 (k+1) y0 y1 y2 y3 y4 y5 y6 y7 y8 y9 y10))
 | 0=>⟨fun _ _ _ _ r h=>by simp [gr_list.l0] at h,fun _ _ _ _ _ _ _ _ _ _ _ r h=>by simp [gr_list.j1] at h⟩
 | k+1=>by
  obtain ⟨ih0,ih1⟩:=gr_list.mono_l k;refine ⟨?_,?_⟩;intro y0 y1 y2 y3;unfold gr_list.l0;rotate_left;intro y0 y1 y2 y3 y4 y5 y6 y7 y8 y9 y10;unfold gr_list.j1;rotate_left
  all_goals repeat' first
   | (with_reducible exact ih0 _ _ _ _)
   | (with_reducible exact ih1 _ _ _ _ _ _ _ _ _ _ _)
   | (with_reducible exact LeO.refl _)
   | (with_reducible exact LeO.none _)
   | (with_reducible refine LeO.ite ?_ ?_)
   | (with_reducible refine LeO.bind ?_ (fun _=>?_))
theorem gr_list.mono:∀ a0 k,LeO (gr_list.f k a0) (gr_list.f (k+1) a0):=by
 intro a0 k;obtain ⟨ih0,ih1⟩:=gr_list.mono_l k
 unfold gr_list.f
 repeat' first
   | (with_reducible exact ih0 _ _ _ _)
   | (with_reducible exact ih1 _ _ _ _ _ _ _ _ _ _ _)
   | (with_reducible exact LeO.refl _)
   | (with_reducible exact LeO.none _)
   | (with_reducible refine LeO.ite ?_ ?_)
   | (with_reducible refine LeO.bind ?_ (fun _=>?_))
set_option maxHeartbeats 8000000 in
set_option maxRecDepth 100000 in
theorem gr_list.calls (k:Nat) (A0:Option Addr) (c0:Nat) (l0:List (S47)) (r:Int) (w:World) (hr0:Kd.C k47 w A0 l0.length l0) (hc0:l0.length≤c0) (h:gr_list.f k l0=some r) :
  Calls Try.prog 30 #[.slice A0 l0.length c0] w fun e w'=>e = .returned (.int .i64 r)∧Below w.heap.size w w':=by
 have hu47:=Try.underlying47;have hu38:=Try.underlying38;have HR0:=Aside0.mk hr0;have HC0:=Aside0.mk hc0;clear hr0 hc0;have HB:=Aside0.mk (Below.refl w.heap.size w);have H:(gr_list.l0 k l0 l0 (l0.length:Int) 0)=some r:=h;clear h;have H':=Aside0.mk H;clear H
 go_enter Try.func30,Try.ntmps30
 go_wp2
 repeat (go_quiet (fail);try go_wp2)
 go_loopg [7] k (fun kq v7 w'=>∃ (x7_1:Int),v7 = .int .i64 x7_1∧Aside0 (gr_list.l0 kq l0 l0 (l0.length:Int) x7_1=some r)∧Aside0 (kq≤k)∧Aside0 (Below w.heap.size w w'))
 case atStart=>exact ⟨(0),(by first|rfl|(simp;done)|(simp [*];done)),H',⟨Nat.le_refl _⟩,⟨by repeat first|(with_reducible first|exact HB.out|apply lA_|apply lN_|apply lD_)|exact HB.out⟩⟩
 case round =>
  clear H';obtain ⟨x7_1,rfl,HA,HK1,HB⟩:=hrel
  cases gk with
  | zero=>exact absurd HA.out (by simp [gr_list.l0])
  | succ k1 =>
   have H:=HA.out;clear HA;simp only [gr_list.l0] at H;by_cases c2:x7_1<(l0.length:Int)
   ·rw [if_pos c2] at H
    have c2b0:=decide_eq_true c2;clear c2;by_cases c3:0≤x7_1
    ·rw [if_pos c3] at H
     have c3b0:=decide_eq_true c3;clear c3;by_cases c4:x7_1<(l0.length:Int)
     ·rw [if_pos c4] at H
      have c4b0:=decide_eq_true c4;clear c4;have HC5:=Aside0.mk H;clear H
      have p193:0≤(x7_1:Int):=of_decide_eq_true (by first|(with_reducible assumption)|assumption)
      have q193:x7_1<(l0.length:Int):=of_decide_eq_true (by first|(with_reducible assumption)|assumption)
      obtain ⟨ad193,e193,hx193_0,hx193_1,hx193_2,hx193_3,hx193_4⟩:=at_T47 HR0.out x7_1 p193 q193;cases e193;replace hx193_0:=(HB.out.cell (World.block_lt_of_cell? w _ hx193_0)).trans hx193_0;replace hx193_1:=(HB.out.cell (World.block_lt_of_cell? w _ hx193_1)).trans hx193_1;replace hx193_2:=(HB.out.cell (World.block_lt_of_cell? w _ hx193_2)).trans hx193_2;replace hx193_3:=(HB.out.cell (World.block_lt_of_cell? w _ hx193_3)).trans hx193_3;replace hx193_4:=(HB.out.cell (World.block_lt_of_cell? w _ hx193_4)).trans hx193_4;replace p193:=eq_true p193;replace q193:=eq_true q193
      go_upto_region 4 with (first|((with_reducible refine gate_dst (N:=4) rfl ?_);refine box_event ?hg (N:=4) ?hd (cs:=#[.int .i64 0,.int .i64 0,.int .i64 0,.int .i64 0,.int .i64 0]) (t:=47) ?hr ?_;(case hd=>rfl);(case hg=>rfl);(case hr=>first|(go_simp;done)|(go_simp;rfl));intro gb194 hg w6 hbox hb;have n0_:=Aside0.mk (below_step (by repeat first|(with_reducible first|exact HB.out|apply lA_|apply lN_|apply lD_)|exact HB.out) hb);have n1_:=Aside0.mk (hbox);have n2_:=Aside0.mk ((by rw [hg];exact (below_size (by repeat first|(with_reducible first|exact HB.out|apply lA_|apply lN_|apply lD_)|exact HB.out)):w.heap.size≤gb194));have n3_:=Aside0.mk ((by rw [hg];exact (below_size (by repeat first|(with_reducible first|exact HB.out|apply lA_|apply lN_|apply lD_)|exact HB.out)):w.heap.size≤gb194));clear HB;have HB:=n0_;have BK194:=n1_;have GW194:=n2_;have GE194:=n3_;clear n0_ n1_ n2_ n3_;clear hb hbox hg;have hcz7_0:w6.cell? ⟨gb194,0,none⟩=some (.int .i64 0):=(blk_cell BK194.out 0).trans rfl;have hcz7_1:w6.cell? ⟨gb194,1,none⟩=some (.int .i64 0):=(blk_cell BK194.out 1).trans rfl;have hcz7_2:w6.cell? ⟨gb194,2,none⟩=some (.int .i64 0):=(blk_cell BK194.out 2).trans rfl;have hcz7_3:w6.cell? ⟨gb194,3,none⟩=some (.int .i64 0):=(blk_cell BK194.out 3).trans rfl;have hcz7_4:w6.cell? ⟨gb194,4,none⟩=some (.int .i64 0):=(blk_cell BK194.out 4).trans rfl;have hfz7_0:=blk_frozen BK194.out 0;have hfz7_1:=blk_frozen BK194.out 1;have hfz7_2:=blk_frozen BK194.out 2;have hfz7_3:=blk_frozen BK194.out 3;have hfz7_4:=blk_frozen BK194.out 4))
      repeat (go_quiet (first|((with_reducible refine gate_dst (N:=4) rfl ?_);refine box_event ?hg (N:=4) ?hd (cs:=#[.int .i64 0,.int .i64 0,.int .i64 0,.int .i64 0,.int .i64 0]) (t:=47) ?hr ?_;(case hd=>rfl);(case hg=>rfl);(case hr=>first|(go_simp;done)|(go_simp;rfl));intro gb194 hg w6 hbox hb;have n0_:=Aside0.mk (below_step (by repeat first|(with_reducible first|exact HB.out|apply lA_|apply lN_|apply lD_)|exact HB.out) hb);have n1_:=Aside0.mk (hbox);have n2_:=Aside0.mk ((by rw [hg];exact (below_size (by repeat first|(with_reducible first|exact HB.out|apply lA_|apply lN_|apply lD_)|exact HB.out)):w.heap.size≤gb194));have n3_:=Aside0.mk ((by rw [hg];exact (below_size (by repeat first|(with_reducible first|exact HB.out|apply lA_|apply lN_|apply lD_)|exact HB.out)):w.heap.size≤gb194));clear HB;have HB:=n0_;have BK194:=n1_;have GW194:=n2_;have GE194:=n3_;clear n0_ n1_ n2_ n3_;clear hb hbox hg;have hcz7_0:w6.cell? ⟨gb194,0,none⟩=some (.int .i64 0):=(blk_cell BK194.out 0).trans rfl;have hcz7_1:w6.cell? ⟨gb194,1,none⟩=some (.int .i64 0):=(blk_cell BK194.out 1).trans rfl;have hcz7_2:w6.cell? ⟨gb194,2,none⟩=some (.int .i64 0):=(blk_cell BK194.out 2).trans rfl;have hcz7_3:w6.cell? ⟨gb194,3,none⟩=some (.int .i64 0):=(blk_cell BK194.out 3).trans rfl;have hcz7_4:w6.cell? ⟨gb194,4,none⟩=some (.int .i64 0):=(blk_cell BK194.out 4).trans rfl;have hfz7_0:=blk_frozen BK194.out 0;have hfz7_1:=blk_frozen BK194.out 1;have hfz7_2:=blk_frozen BK194.out 2;have hfz7_3:=blk_frozen BK194.out 3;have hfz7_4:=blk_frozen BK194.out 4));go_upto_region 4 with (first|((with_reducible refine gate_dst (N:=4) rfl ?_);refine box_event ?hg (N:=4) ?hd (cs:=#[.int .i64 0,.int .i64 0,.int .i64 0,.int .i64 0,.int .i64 0]) (t:=47) ?hr ?_;(case hd=>rfl);(case hg=>rfl);(case hr=>first|(go_simp;done)|(go_simp;rfl));intro gb194 hg w6 hbox hb;have n0_:=Aside0.mk (below_step (by repeat first|(with_reducible first|exact HB.out|apply lA_|apply lN_|apply lD_)|exact HB.out) hb);have n1_:=Aside0.mk (hbox);have n2_:=Aside0.mk ((by rw [hg];exact (below_size (by repeat first|(with_reducible first|exact HB.out|apply lA_|apply lN_|apply lD_)|exact HB.out)):w.heap.size≤gb194));have n3_:=Aside0.mk ((by rw [hg];exact (below_size (by repeat first|(with_reducible first|exact HB.out|apply lA_|apply lN_|apply lD_)|exact HB.out)):w.heap.size≤gb194));clear HB;have HB:=n0_;have BK194:=n1_;have GW194:=n2_;have GE194:=n3_;clear n0_ n1_ n2_ n3_;clear hb hbox hg;have hcz7_0:w6.cell? ⟨gb194,0,none⟩=some (.int .i64 0):=(blk_cell BK194.out 0).trans rfl;have hcz7_1:w6.cell? ⟨gb194,1,none⟩=some (.int .i64 0):=(blk_cell BK194.out 1).trans rfl;have hcz7_2:w6.cell? ⟨gb194,2,none⟩=some (.int .i64 0):=(blk_cell BK194.out 2).trans rfl;have hcz7_3:w6.cell? ⟨gb194,3,none⟩=some (.int .i64 0):=(blk_cell BK194.out 3).trans rfl;have hcz7_4:w6.cell? ⟨gb194,4,none⟩=some (.int .i64 0):=(blk_cell BK194.out 4).trans rfl;have hfz7_0:=blk_frozen BK194.out 0;have hfz7_1:=blk_frozen BK194.out 1;have hfz7_2:=blk_frozen BK194.out 2;have hfz7_3:=blk_frozen BK194.out 3;have hfz7_4:=blk_frozen BK194.out 4)))
      (try simp only [Act.put,tS_,tZ_,tC_])
      go_cut [25] (fun v25 wc=>∃ (kq:Nat) (x25_4:Bool),v25 = .bool x25_4∧Aside0 (gr_list.j1 kq l0 x7_1 l0 (l0.length:Int) x7_1 x25_4 ((rd_T47 l0 x7_1).f0) ((rd_T47 l0 x7_1).f1.f0) ((rd_T47 l0 x7_1).f1.f1) ((rd_T47 l0 x7_1).f1.f2) ((rd_T47 l0 x7_1).f1.f3)=some r)∧Aside0 (kq≤k1)∧Aside0 (wc.heap[gb194]? = some (.cells #[.int .i64 ((rd_T47 l0 x7_1).f0),.int .i64 ((rd_T47 l0 x7_1).f1.f0),.int .i64 ((rd_T47 l0 x7_1).f1.f1),.int .i64 ((rd_T47 l0 x7_1).f1.f2),.int .i64 ((rd_T47 l0 x7_1).f1.f3)] 47 (0,0)))∧Aside0 (Below w.heap.size w wc))
      case first =>
       have H:=HC5.out;clear HC5;by_cases c8:((rd_T47 l0 x7_1).f0)<0
       ·rw [if_pos c8] at H
        have c8b0:=decide_eq_true c8;clear c8
        (first|rw [c8b0]|(simp only [i64_w,i32_w];rw [c8b0])|skip)
        have H':=Aside0.mk H;clear H;have hcz9_0:w6.cell? ⟨gb194,0,none⟩=some (.int .i64 0):=(blk_cell BK194.out 0).trans rfl;have hcz9_1:w6.cell? ⟨gb194,1,none⟩=some (.int .i64 0):=(blk_cell BK194.out 1).trans rfl;have hcz9_2:w6.cell? ⟨gb194,2,none⟩=some (.int .i64 0):=(blk_cell BK194.out 2).trans rfl;have hcz9_3:w6.cell? ⟨gb194,3,none⟩=some (.int .i64 0):=(blk_cell BK194.out 3).trans rfl;have hcz9_4:w6.cell? ⟨gb194,4,none⟩=some (.int .i64 0):=(blk_cell BK194.out 4).trans rfl;have hfz9_0:=blk_frozen BK194.out 0;have hfz9_1:=blk_frozen BK194.out 1;have hfz9_2:=blk_frozen BK194.out 2;have hfz9_3:=blk_frozen BK194.out 3;have hfz9_4:=blk_frozen BK194.out 4
        go_wp2
        repeat (go_quiet (fail);try go_wp2)
        go_meet
        case rel=>exact ⟨_,(true),(by first|rfl|(simp;done)|(simp [*];done)),H',⟨by have:=HK1.out;first|omega|exact Nat.le_refl _⟩,⟨by (with_reducible repeat first|apply bN_|apply bD_|apply bA_);refine blk_put (cs:=#[.int .i64 ((rd_T47 l0 x7_1).f0),.int .i64 ((rd_T47 l0 x7_1).f1.f0),.int .i64 ((rd_T47 l0 x7_1).f1.f1),.int .i64 ((rd_T47 l0 x7_1).f1.f2),.int .i64 0]) ?_ 4 _ rfl;(with_reducible repeat first|apply bN_|apply bD_|apply bA_);refine blk_put (cs:=#[.int .i64 ((rd_T47 l0 x7_1).f0),.int .i64 ((rd_T47 l0 x7_1).f1.f0),.int .i64 ((rd_T47 l0 x7_1).f1.f1),.int .i64 0,.int .i64 0]) ?_ 3 _ rfl;(with_reducible repeat first|apply bN_|apply bD_|apply bA_);refine blk_put (cs:=#[.int .i64 ((rd_T47 l0 x7_1).f0),.int .i64 ((rd_T47 l0 x7_1).f1.f0),.int .i64 0,.int .i64 0,.int .i64 0]) ?_ 2 _ rfl;(with_reducible repeat first|apply bN_|apply bD_|apply bA_);refine blk_put (cs:=#[.int .i64 ((rd_T47 l0 x7_1).f0),.int .i64 0,.int .i64 0,.int .i64 0,.int .i64 0]) ?_ 1 _ rfl;(with_reducible repeat first|apply bN_|apply bD_|apply bA_);refine blk_put (cs:=#[.int .i64 0,.int .i64 0,.int .i64 0,.int .i64 0,.int .i64 0]) ?_ 0 _ rfl;(with_reducible repeat first|apply bN_|apply bD_|apply bA_);exact BK194.out⟩,⟨by repeat first|(with_reducible first|exact HB.out|apply lA_|apply lN_|apply lD_|refine lS_ ?_ GE194.out)|exact HB.out⟩⟩
       rw [if_neg c8] at H;have c8b0:=decide_eq_false c8;clear c8
       (first|rw [c8b0]|(simp only [i64_w,i32_w];rw [c8b0])|skip)
       by_cases c10:((rd_T47 l0 x7_1).f0)>65535
       ·rw [if_pos c10] at H
        have c10b0:=decide_eq_true c10;clear c10;have H':=Aside0.mk H;clear H;have hcz11_0:w6.cell? ⟨gb194,0,none⟩=some (.int .i64 0):=(blk_cell BK194.out 0).trans rfl;have hcz11_1:w6.cell? ⟨gb194,1,none⟩=some (.int .i64 0):=(blk_cell BK194.out 1).trans rfl;have hcz11_2:w6.cell? ⟨gb194,2,none⟩=some (.int .i64 0):=(blk_cell BK194.out 2).trans rfl;have hcz11_3:w6.cell? ⟨gb194,3,none⟩=some (.int .i64 0):=(blk_cell BK194.out 3).trans rfl;have hcz11_4:w6.cell? ⟨gb194,4,none⟩=some (.int .i64 0):=(blk_cell BK194.out 4).trans rfl;have hfz11_0:=blk_frozen BK194.out 0;have hfz11_1:=blk_frozen BK194.out 1;have hfz11_2:=blk_frozen BK194.out 2;have hfz11_3:=blk_frozen BK194.out 3;have hfz11_4:=blk_frozen BK194.out 4
        go_wp2
        repeat (go_quiet (fail);try go_wp2)
        go_meet
        case rel=>exact ⟨_,(true),(by first|rfl|(simp;done)|(simp [*];done)),H',⟨by have:=HK1.out;first|omega|exact Nat.le_refl _⟩,⟨by (with_reducible repeat first|apply bN_|apply bD_|apply bA_);refine blk_put (cs:=#[.int .i64 ((rd_T47 l0 x7_1).f0),.int .i64 ((rd_T47 l0 x7_1).f1.f0),.int .i64 ((rd_T47 l0 x7_1).f1.f1),.int .i64 ((rd_T47 l0 x7_1).f1.f2),.int .i64 0]) ?_ 4 _ rfl;(with_reducible repeat first|apply bN_|apply bD_|apply bA_);refine blk_put (cs:=#[.int .i64 ((rd_T47 l0 x7_1).f0),.int .i64 ((rd_T47 l0 x7_1).f1.f0),.int .i64 ((rd_T47 l0 x7_1).f1.f1),.int .i64 0,.int .i64 0]) ?_ 3 _ rfl;(with_reducible repeat first|apply bN_|apply bD_|apply bA_);refine blk_put (cs:=#[.int .i64 ((rd_T47 l0 x7_1).f0),.int .i64 ((rd_T47 l0 x7_1).f1.f0),.int .i64 0,.int .i64 0,.int .i64 0]) ?_ 2 _ rfl;(with_reducible repeat first|apply bN_|apply bD_|apply bA_);refine blk_put (cs:=#[.int .i64 ((rd_T47 l0 x7_1).f0),.int .i64 0,.int .i64 0,.int .i64 0,.int .i64 0]) ?_ 1 _ rfl;(with_reducible repeat first|apply bN_|apply bD_|apply bA_);refine blk_put (cs:=#[.int .i64 0,.int .i64 0,.int .i64 0,.int .i64 0,.int .i64 0]) ?_ 0 _ rfl;(with_reducible repeat first|apply bN_|apply bD_|apply bA_);exact BK194.out⟩,⟨by repeat first|(with_reducible first|exact HB.out|apply lA_|apply lN_|apply lD_|refine lS_ ?_ GE194.out)|exact HB.out⟩⟩
       rw [if_neg c10] at H;have c10b0:=decide_eq_false c10;clear c10;replace H:=Option.bind_eq_some_iff.mp H;obtain ⟨t195,A120,H⟩:=H;replace H:(gr_list.j1 k1 l0 x7_1 l0 (l0.length:Int) x7_1 (!t195) ((rd_T47 l0 x7_1).f0) ((rd_T47 l0 x7_1).f1.f0) ((rd_T47 l0 x7_1).f1.f1) ((rd_T47 l0 x7_1).f1.f2) ((rd_T47 l0 x7_1).f1.f3))=some r:=H;have A12:=Aside0.mk A120;clear A120;have H':=Aside0.mk H;clear H;have hcz13_0:w6.cell? ⟨gb194,0,none⟩=some (.int .i64 0):=(blk_cell BK194.out 0).trans rfl;have hcz13_1:w6.cell? ⟨gb194,1,none⟩=some (.int .i64 0):=(blk_cell BK194.out 1).trans rfl;have hcz13_2:w6.cell? ⟨gb194,2,none⟩=some (.int .i64 0):=(blk_cell BK194.out 2).trans rfl;have hcz13_3:w6.cell? ⟨gb194,3,none⟩=some (.int .i64 0):=(blk_cell BK194.out 3).trans rfl;have hcz13_4:w6.cell? ⟨gb194,4,none⟩=some (.int .i64 0):=(blk_cell BK194.out 4).trans rfl;have hfz13_0:=blk_frozen BK194.out 0;have hfz13_1:=blk_frozen BK194.out 1;have hfz13_2:=blk_frozen BK194.out 2;have hfz13_3:=blk_frozen BK194.out 3;have hfz13_4:=blk_frozen BK194.out 4
       go_wp2_with (first|(go_at_call 47;(with_reducible refine (pixel_Valid.calls ((rd_T47 l0 x7_1).f1.f0) ((rd_T47 l0 x7_1).f1.f1) ((rd_T47 l0 x7_1).f1.f2) ((rd_T47 l0 x7_1).f1.f3) t195 _ A12.out).mono ?_);rintro e w14 ⟨rfl,hb⟩;have n0_:=Aside0.mk (blk_below (g:=gb194) (o:=.cells #[.int .i64 ((rd_T47 l0 x7_1).f0),.int .i64 ((rd_T47 l0 x7_1).f1.f0),.int .i64 ((rd_T47 l0 x7_1).f1.f1),.int .i64 ((rd_T47 l0 x7_1).f1.f2),.int .i64 ((rd_T47 l0 x7_1).f1.f3)] 47 (0,0)) (by (with_reducible repeat first|apply bN_|apply bD_|apply bA_);refine blk_put (cs:=#[.int .i64 ((rd_T47 l0 x7_1).f0),.int .i64 ((rd_T47 l0 x7_1).f1.f0),.int .i64 ((rd_T47 l0 x7_1).f1.f1),.int .i64 ((rd_T47 l0 x7_1).f1.f2),.int .i64 0]) ?_ 4 _ rfl;(with_reducible repeat first|apply bN_|apply bD_|apply bA_);refine blk_put (cs:=#[.int .i64 ((rd_T47 l0 x7_1).f0),.int .i64 ((rd_T47 l0 x7_1).f1.f0),.int .i64 ((rd_T47 l0 x7_1).f1.f1),.int .i64 0,.int .i64 0]) ?_ 3 _ rfl;(with_reducible repeat first|apply bN_|apply bD_|apply bA_);refine blk_put (cs:=#[.int .i64 ((rd_T47 l0 x7_1).f0),.int .i64 ((rd_T47 l0 x7_1).f1.f0),.int .i64 0,.int .i64 0,.int .i64 0]) ?_ 2 _ rfl;(with_reducible repeat first|apply bN_|apply bD_|apply bA_);refine blk_put (cs:=#[.int .i64 ((rd_T47 l0 x7_1).f0),.int .i64 0,.int .i64 0,.int .i64 0,.int .i64 0]) ?_ 1 _ rfl;(with_reducible repeat first|apply bN_|apply bD_|apply bA_);refine blk_put (cs:=#[.int .i64 0,.int .i64 0,.int .i64 0,.int .i64 0,.int .i64 0]) ?_ 0 _ rfl;(with_reducible repeat first|apply bN_|apply bD_|apply bA_);exact BK194.out) hb);have n1_:=Aside0.mk (below_step (by repeat first|(with_reducible first|exact HB.out|apply lA_|apply lN_|apply lD_|refine lS_ ?_ GE194.out)|exact HB.out) hb);clear BK194;clear HB;have BK194:=n0_;have HB:=n1_;clear n0_ n1_;(try clear hb);(try clear hb2);(try clear hk);(try clear hi)))
       repeat (go_quiet (first|(go_at_call 47;(with_reducible refine (pixel_Valid.calls ((rd_T47 l0 x7_1).f1.f0) ((rd_T47 l0 x7_1).f1.f1) ((rd_T47 l0 x7_1).f1.f2) ((rd_T47 l0 x7_1).f1.f3) t195 _ A12.out).mono ?_);rintro e w14 ⟨rfl,hb⟩;have n0_:=Aside0.mk (blk_below (g:=gb194) (o:=.cells #[.int .i64 ((rd_T47 l0 x7_1).f0),.int .i64 ((rd_T47 l0 x7_1).f1.f0),.int .i64 ((rd_T47 l0 x7_1).f1.f1),.int .i64 ((rd_T47 l0 x7_1).f1.f2),.int .i64 ((rd_T47 l0 x7_1).f1.f3)] 47 (0,0)) (by (with_reducible repeat first|apply bN_|apply bD_|apply bA_);refine blk_put (cs:=#[.int .i64 ((rd_T47 l0 x7_1).f0),.int .i64 ((rd_T47 l0 x7_1).f1.f0),.int .i64 ((rd_T47 l0 x7_1).f1.f1),.int .i64 ((rd_T47 l0 x7_1).f1.f2),.int .i64 0]) ?_ 4 _ rfl;(with_reducible repeat first|apply bN_|apply bD_|apply bA_);refine blk_put (cs:=#[.int .i64 ((rd_T47 l0 x7_1).f0),.int .i64 ((rd_T47 l0 x7_1).f1.f0),.int .i64 ((rd_T47 l0 x7_1).f1.f1),.int .i64 0,.int .i64 0]) ?_ 3 _ rfl;(with_reducible repeat first|apply bN_|apply bD_|apply bA_);refine blk_put (cs:=#[.int .i64 ((rd_T47 l0 x7_1).f0),.int .i64 ((rd_T47 l0 x7_1).f1.f0),.int .i64 0,.int .i64 0,.int .i64 0]) ?_ 2 _ rfl;(with_reducible repeat first|apply bN_|apply bD_|apply bA_);refine blk_put (cs:=#[.int .i64 ((rd_T47 l0 x7_1).f0),.int .i64 0,.int .i64 0,.int .i64 0,.int .i64 0]) ?_ 1 _ rfl;(with_reducible repeat first|apply bN_|apply bD_|apply bA_);refine blk_put (cs:=#[.int .i64 0,.int .i64 0,.int .i64 0,.int .i64 0,.int .i64 0]) ?_ 0 _ rfl;(with_reducible repeat first|apply bN_|apply bD_|apply bA_);exact BK194.out) hb);have n1_:=Aside0.mk (below_step (by repeat first|(with_reducible first|exact HB.out|apply lA_|apply lN_|apply lD_|refine lS_ ?_ GE194.out)|exact HB.out) hb);clear BK194;clear HB;have BK194:=n0_;have HB:=n1_;clear n0_ n1_;(try clear hb);(try clear hb2);(try clear hk);(try clear hi)));try go_wp2_with (first|(go_at_call 47;(with_reducible refine (pixel_Valid.calls ((rd_T47 l0 x7_1).f1.f0) ((rd_T47 l0 x7_1).f1.f1) ((rd_T47 l0 x7_1).f1.f2) ((rd_T47 l0 x7_1).f1.f3) t195 _ A12.out).mono ?_);rintro e w14 ⟨rfl,hb⟩;have n0_:=Aside0.mk (blk_below (g:=gb194) (o:=.cells #[.int .i64 ((rd_T47 l0 x7_1).f0),.int .i64 ((rd_T47 l0 x7_1).f1.f0),.int .i64 ((rd_T47 l0 x7_1).f1.f1),.int .i64 ((rd_T47 l0 x7_1).f1.f2),.int .i64 ((rd_T47 l0 x7_1).f1.f3)] 47 (0,0)) (by (with_reducible repeat first|apply bN_|apply bD_|apply bA_);refine blk_put (cs:=#[.int .i64 ((rd_T47 l0 x7_1).f0),.int .i64 ((rd_T47 l0 x7_1).f1.f0),.int .i64 ((rd_T47 l0 x7_1).f1.f1),.int .i64 ((rd_T47 l0 x7_1).f1.f2),.int .i64 0]) ?_ 4 _ rfl;(with_reducible repeat first|apply bN_|apply bD_|apply bA_);refine blk_put (cs:=#[.int .i64 ((rd_T47 l0 x7_1).f0),.int .i64 ((rd_T47 l0 x7_1).f1.f0),.int .i64 ((rd_T47 l0 x7_1).f1.f1),.int .i64 0,.int .i64 0]) ?_ 3 _ rfl;(with_reducible repeat first|apply bN_|apply bD_|apply bA_);refine blk_put (cs:=#[.int .i64 ((rd_T47 l0 x7_1).f0),.int .i64 ((rd_T47 l0 x7_1).f1.f0),.int .i64 0,.int .i64 0,.int .i64 0]) ?_ 2 _ rfl;(with_reducible repeat first|apply bN_|apply bD_|apply bA_);refine blk_put (cs:=#[.int .i64 ((rd_T47 l0 x7_1).f0),.int .i64 0,.int .i64 0,.int .i64 0,.int .i64 0]) ?_ 1 _ rfl;(with_reducible repeat first|apply bN_|apply bD_|apply bA_);refine blk_put (cs:=#[.int .i64 0,.int .i64 0,.int .i64 0,.int .i64 0,.int .i64 0]) ?_ 0 _ rfl;(with_reducible repeat first|apply bN_|apply bD_|apply bA_);exact BK194.out) hb);have n1_:=Aside0.mk (below_step (by repeat first|(with_reducible first|exact HB.out|apply lA_|apply lN_|apply lD_|refine lS_ ?_ GE194.out)|exact HB.out) hb);clear BK194;clear HB;have BK194:=n0_;have HB:=n1_;clear n0_ n1_;(try clear hb);(try clear hb2);(try clear hk);(try clear hi))))
       go_meet
       case rel=>exact ⟨_,(!t195),(by first|rfl|(simp;done)|(simp [*];done)),H',⟨by have:=HK1.out;first|omega|exact Nat.le_refl _⟩,⟨by (with_reducible repeat first|apply bN_|apply bD_|apply bA_);exact BK194.out⟩,⟨by repeat first|(with_reducible first|exact HB.out|apply lA_|apply lN_|apply lD_|refine lS_ ?_ GE194.out)|exact HB.out⟩⟩
      case rest =>
       clear HC5;obtain ⟨kq,x25_4,rfl,HA,HJ4,BK194,HB⟩:=hcut
       cases kq with
       | zero=>exact absurd HA.out (by simp [gr_list.j1])
       | succ kj4 =>
        have H:=HA.out;clear HA;simp only [gr_list.j1] at H;by_cases c15:x25_4=true
        ·subst c15
         have H1:(some 2)=some r:=by rw [if_pos rfl] at H;exact H
         clear H;have H:=H1;clear H1;obtain rfl:=Option.some.inj H
         go_wp2
         repeat (go_quiet (fail);try go_wp2)
         go_ret
         exact ⟨by first|rfl|(simp [errW_none,errW_some] <;> rfl)|(simp [*,errW_none,errW_some] <;> rfl),by repeat first|(with_reducible first|exact HB.out|apply lA_|apply lN_|apply lD_|refine lS_ ?_ GE194.out)|exact HB.out⟩
        replace c15:=Bool.eq_false_iff.mpr c15;subst c15
        have H1:(if x7_1>0 then (if 0≤(wrap64 (x7_1-1)) then (if (wrap64 (x7_1-1))<(l0.length:Int) then (if ((rd_T47 l0 x7_1).f0)≤((rd_T47 l0 (wrap64 (x7_1-1))).f0) then (some 24) else (gr_list.l0 kj4 l0 l0 (l0.length:Int) (wrap64 (x7_1+1)))) else (none)) else (none)) else (gr_list.l0 kj4 l0 l0 (l0.length:Int) (wrap64 (x7_1+1))))=some r:=by rw [if_neg (show ¬ (false=true) by decide)] at H;exact H
        clear H;have H:=H1;clear H1;by_cases c16:x7_1>0
        ·rw [if_pos c16] at H
         have c16b0:=decide_eq_true c16;clear c16;obtain ⟨ji17,hji17⟩:∃ j_:Int,(wrap64 (x7_1-1))=j_:=⟨_,rfl⟩
         replace H:(if 0≤(ji17) then (if (ji17)<(l0.length:Int) then (if ((rd_T47 l0 x7_1).f0)≤((rd_T47 l0 (ji17)).f0) then (some 24) else (gr_list.l0 kj4 l0 l0 (l0.length:Int) (wrap64 (x7_1+1)))) else (none)) else (none))=some r:=by first|(rw [hji17] at H;exact H)|(simp only [hji17] at H ⊢;exact H)
         have hji17w:(IntKind.i64.wrap (x7_1-1))=ji17:=(i64_w _).trans hji17;by_cases c18:0≤(ji17)
         ·rw [if_pos c18] at H
          have c18b0:=decide_eq_true c18;clear c18;by_cases c19:(ji17)<(l0.length:Int)
          ·rw [if_pos c19] at H
           have c19b0:=decide_eq_true c19;clear c19;by_cases c20:((rd_T47 l0 x7_1).f0)≤((rd_T47 l0 (ji17)).f0)
           ·rw [if_pos c20] at H
            have c20b0:=decide_eq_true c20;clear c20;obtain rfl:=Option.some.inj H;have hcz21_0:wc.cell? ⟨gb194,0,none⟩=some (.int .i64 ((rd_T47 l0 x7_1).f0)):=(blk_cell BK194.out 0).trans rfl;have hcz21_1:wc.cell? ⟨gb194,1,none⟩=some (.int .i64 ((rd_T47 l0 x7_1).f1.f0)):=(blk_cell BK194.out 1).trans rfl;have hcz21_2:wc.cell? ⟨gb194,2,none⟩=some (.int .i64 ((rd_T47 l0 x7_1).f1.f1)):=(blk_cell BK194.out 2).trans rfl;have hcz21_3:wc.cell? ⟨gb194,3,none⟩=some (.int .i64 ((rd_T47 l0 x7_1).f1.f2)):=(blk_cell BK194.out 3).trans rfl;have hcz21_4:wc.cell? ⟨gb194,4,none⟩=some (.int .i64 ((rd_T47 l0 x7_1).f1.f3)):=(blk_cell BK194.out 4).trans rfl;have hfz21_0:=blk_frozen BK194.out 0;have hfz21_1:=blk_frozen BK194.out 1;have hfz21_2:=blk_frozen BK194.out 2;have hfz21_3:=blk_frozen BK194.out 3;have hfz21_4:=blk_frozen BK194.out 4
            have p196:0≤((ji17):Int):=of_decide_eq_true (by first|(with_reducible assumption)|assumption)
            have q196:(ji17)<(l0.length:Int):=of_decide_eq_true (by first|(with_reducible assumption)|assumption)
            obtain ⟨ad196,e196,hx196_0,hx196_1,hx196_2,hx196_3,hx196_4⟩:=at_T47 HR0.out (ji17) p196 q196
            obtain rfl:ad193=ad196:=(by injection e196)
            replace hx196_0:=(HB.out.cell (World.block_lt_of_cell? w _ hx196_0)).trans hx196_0;replace hx196_1:=(HB.out.cell (World.block_lt_of_cell? w _ hx196_1)).trans hx196_1;replace hx196_2:=(HB.out.cell (World.block_lt_of_cell? w _ hx196_2)).trans hx196_2;replace hx196_3:=(HB.out.cell (World.block_lt_of_cell? w _ hx196_3)).trans hx196_3;replace hx196_4:=(HB.out.cell (World.block_lt_of_cell? w _ hx196_4)).trans hx196_4;replace p196:=eq_true p196;replace q196:=eq_true q196
            go_wp2
            repeat (go_quiet (fail);try go_wp2)
            go_ret
            exact ⟨by first|rfl|(simp [errW_none,errW_some] <;> rfl)|(simp only [← hji17];first|rfl|(simp [errW_none,errW_some] <;> rfl))|(simp [*,errW_none,errW_some] <;> rfl),by repeat first|(with_reducible first|exact HB.out|apply lA_|apply lN_|apply lD_|refine lS_ ?_ GE194.out)|exact HB.out⟩
           rw [if_neg c20] at H;have c20b0:=decide_eq_false c20;clear c20;have H':=Aside0.mk H;clear H;have hcz22_0:wc.cell? ⟨gb194,0,none⟩=some (.int .i64 ((rd_T47 l0 x7_1).f0)):=(blk_cell BK194.out 0).trans rfl;have hcz22_1:wc.cell? ⟨gb194,1,none⟩=some (.int .i64 ((rd_T47 l0 x7_1).f1.f0)):=(blk_cell BK194.out 1).trans rfl;have hcz22_2:wc.cell? ⟨gb194,2,none⟩=some (.int .i64 ((rd_T47 l0 x7_1).f1.f1)):=(blk_cell BK194.out 2).trans rfl;have hcz22_3:wc.cell? ⟨gb194,3,none⟩=some (.int .i64 ((rd_T47 l0 x7_1).f1.f2)):=(blk_cell BK194.out 3).trans rfl;have hcz22_4:wc.cell? ⟨gb194,4,none⟩=some (.int .i64 ((rd_T47 l0 x7_1).f1.f3)):=(blk_cell BK194.out 4).trans rfl;have hfz22_0:=blk_frozen BK194.out 0;have hfz22_1:=blk_frozen BK194.out 1;have hfz22_2:=blk_frozen BK194.out 2;have hfz22_3:=blk_frozen BK194.out 3;have hfz22_4:=blk_frozen BK194.out 4
           have p196:0≤((ji17):Int):=of_decide_eq_true (by first|(with_reducible assumption)|assumption)
           have q196:(ji17)<(l0.length:Int):=of_decide_eq_true (by first|(with_reducible assumption)|assumption)
           obtain ⟨ad196,e196,hx196_0,hx196_1,hx196_2,hx196_3,hx196_4⟩:=at_T47 HR0.out (ji17) p196 q196
           obtain rfl:ad193=ad196:=(by injection e196)
           replace hx196_0:=(HB.out.cell (World.block_lt_of_cell? w _ hx196_0)).trans hx196_0;replace hx196_1:=(HB.out.cell (World.block_lt_of_cell? w _ hx196_1)).trans hx196_1;replace hx196_2:=(HB.out.cell (World.block_lt_of_cell? w _ hx196_2)).trans hx196_2;replace hx196_3:=(HB.out.cell (World.block_lt_of_cell? w _ hx196_3)).trans hx196_3;replace hx196_4:=(HB.out.cell (World.block_lt_of_cell? w _ hx196_4)).trans hx196_4;replace p196:=eq_true p196;replace q196:=eq_true q196
           go_wp2
           repeat (go_quiet (fail);try go_wp2)
           go_roundg kj4
           case measure=>have:=HK1.out;have:=HJ4.out;omega
           case rel=>exact ⟨(wrap64 (x7_1+1)),(by first|rfl|(simp;done)|(simp [*];done)),H',⟨by have:=HK1.out;have:=HJ4.out;omega⟩,⟨by repeat first|(with_reducible first|exact HB.out|apply lA_|apply lN_|apply lD_|refine lS_ ?_ GE194.out)|exact HB.out⟩⟩
          rw [if_neg c19] at H
          exact absurd H (by simp)
         rw [if_neg c18] at H
         exact absurd H (by simp)
        rw [if_neg c16] at H;have c16b0:=decide_eq_false c16;clear c16;have H':=Aside0.mk H;clear H
        go_wp2
        repeat (go_quiet (fail);try go_wp2)
        go_roundg kj4
        case measure=>have:=HK1.out;have:=HJ4.out;omega
        case rel=>exact ⟨(wrap64 (x7_1+1)),(by first|rfl|(simp;done)|(simp [*];done)),H',⟨by have:=HK1.out;have:=HJ4.out;omega⟩,⟨by repeat first|(with_reducible first|exact HB.out|apply lA_|apply lN_|apply lD_|refine lS_ ?_ GE194.out)|exact HB.out⟩⟩
     rw [if_neg c4] at H
     exact absurd H (by simp)
    rw [if_neg c3] at H
    exact absurd H (by simp)
   rw [if_neg c2] at H;have c2b0:=decide_eq_false c2;clear c2;obtain rfl:=Option.some.inj H
   go_wp2
   repeat (go_quiet (fail);try go_wp2)
   go_ret
   exact ⟨by first|rfl|(simp [errW_none,errW_some] <;> rfl)|(simp [*,errW_none,errW_some] <;> rfl),by repeat first|(with_reducible first|exact HB.out|apply lA_|apply lN_|apply lD_)|exact HB.out⟩

end Go.Proofs.Ytmlcobnidfkhfaa.Q
