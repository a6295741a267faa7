/- Each Go function of the law as a Lean function, with the proof that its call comes to just that, for every input; written by hp.py, a program of this session over the kit own print of the translation. -/
import Derived.Test.YtmlcobnidfkhfaaQ0
import Derived.Test.YtmlcobnidfkhfaaQ7
import Derived.Test.YtmlcobnidfkhfaaQ9
import Derived.Test.YtmlcobnidfkhfaaQ11
namespace Go.Proofs.Ytmlcobnidfkhfaa.Q
open Go.RowKit Go.Proofs.YtmlcobnidfkhfaaW.PrintWords Go.Proofs.YtmlcobnidfkhfaaW.PrintLast Go.Proofs.YtmlcobnidfkhfaaW.PrintMore
attribute [local go_sem] max2_int min2_int max_two min_two max_three min_three max_four min_four   -- for this text's walks alone
set_option linter.unusedVariables false
set_option linter.unusedSimpArgs false
open Go.Proofs.Ytmlcobnidfkhfaa.Clo Go.Proofs.Ytmlcobnidfkhfaa.Mk0

/-! ### gr_Draw: function 15 -/
mutual
def gr_Draw.j0:Nat→Int→List Int→Int→List (S47)→Bool→Int→Int→Int→Int→Option (Int × Int × (List (S38)) × Int)
 | 0,_,_,_,_,_,_,_,_,_=>none
 | k+1,x0,x1,x2,x3,x36,x248000,x248001,x248002,x248003=>if x36=true then (some (0,0,([]:List (S38)),15)) else ((rect_Empty.f x248000 x248001 x248002 x248003).bind fun t251=>(if t251=true then (some (0,0,([]:List (S38)),0)) else (if 0≤(wrap64 (x248002*x248003)) then (if (wrap64 (x248002*x248003):Int).toNat≤8796093022208 then (gr_Draw.l0 k x0 x1 x2 x3 x248001 x248000 x248001 x248002 x248003 x248002 x248003 (([]:List (S38)))) else (none)) else (none))))
def gr_Draw.l0:Nat→Int→List Int→Int→List (S47)→Int→Int→Int→Int→Int→Int→Int→List (S38)→Option (Int × Int × (List (S38)) × Int)
 | 0,_,_,_,_,_,_,_,_,_,_,_,_=>none
 | k+1,x0,x1,x2,x3,x14,x248000,x248001,x248002,x248003,x256000,x256001,x256002=>if x14<(wrap64 (x248001+x248003)) then (gr_Draw.l1 k x0 x1 x2 x3 x14 x248000 x248000 x248001 x248002 x248003 x256000 x256001 x256002) else (some (x256000,x256001,x256002,0))
def gr_Draw.l1:Nat→Int→List Int→Int→List (S47)→Int→Int→Int→Int→Int→Int→Int→Int→List (S38)→Option (Int × Int × (List (S38)) × Int)
 | 0,_,_,_,_,_,_,_,_,_,_,_,_,_=>none
 | k+1,x0,x1,x2,x3,x14,x15,x248000,x248001,x248002,x248003,x256000,x256001,x256002=>if x15<(wrap64 (x248000+x248002)) then ((gr_place.f k x0 x1 x2 x15 x14).bind fun t256=>((gr_color.f k x3 t256).bind fun bt257=>(if x256002.length<4398046511104 then (gr_Draw.l1 k x0 x1 x2 x3 x14 (wrap64 (x15+1)) x248000 x248001 x248002 x248003 x256000 x256001 (x256002++[(⟨bt257.1,bt257.2.1,bt257.2.2.1,bt257.2.2.2⟩:S38)])) else (none)))) else (gr_Draw.l0 k x0 x1 x2 x3 (wrap64 (x14+1)) x248000 x248001 x248002 x248003 x256000 x256001 x256002)
end
def gr_Draw.f (k:Nat) (a0:Int) (l1:List Int) (a2:Int) (l3:List (S47)) (a4_0:Int) (a4_1:Int) (a4_2:Int) (a4_3:Int):Option (Int × Int × (List (S38)) × Int):=(gr_Check.f k a0 l1 a2 l3).bind fun t249=>(if t249=0 then ((rect_Valid.f a4_0 a4_1 a4_2 a4_3).bind fun t250=>(if t250=true then (if a4_2>256 then (gr_Draw.j0 k a0 l1 a2 l3 true a4_0 a4_1 a4_2 a4_3) else (gr_Draw.j0 k a0 l1 a2 l3 (decide (a4_3>256)) a4_0 a4_1 a4_2 a4_3)) else (some (0,0,([]:List (S38)),2)))) else (some (0,0,([]:List (S38)),t249)))
theorem gr_Draw.mono_l:∀ k,(∀ y0 y1 y2 y3 y4 y5 y6 y7 y8,LeO (gr_Draw.j0 k y0 y1 y2 y3 y4 y5 y6 y7 y8) (gr_Draw.j0 (k+1) y0 y1 y2 y3 y4 y5 y6 y7 y8))∧(∀ y0 y1 y2 y3 y4 y5 y6 y7 y8 y9 y10 y11,LeO (gr_Draw.l0 k y0 y1 y2 y3 y4 y5 y6 y7 y8 y9 y10 y11) (gr_Draw.l0 (k+1) y0 y1 y2 y3 y4 y5 y6 y7 y8 y9 y10 y11))∧(∀ y0 y1 y2 y3 y4 y5 y6 y7 y8 y9 y10 y11 y12,LeO (gr_Draw.l1 k y0 y1 y2 y3 y4 y5 y6 y7 y8 y9 y10 y11 y12) (gr_Draw.l1 (k+1) y0 y1 y2 y3 y4 y5 y6 y7 y8 y9 y10 y11 y12))
 | 0=>⟨fun _ _ _ _ _ _ _ _ _ r h=>by simp [gr_Draw.j0] at h,fun _ _ _ _ _ _ _ _ _ _ _ _ r h=>by simp [gr_Draw.l0] at h,fun _ _ _ _ _ _ _ _ _ _ _ _ _ r h=>by simp [gr_Draw.l1] at h⟩
 | k+1=>by
  obtain ⟨ih0,ih1,ih2⟩:=gr_Draw.mono_l k;refine ⟨?_,?_,?_⟩;intro y0 y1 y2 y3 y4 y5 y6 y7 y8;unfold gr_Draw.j0;rotate_left;intro y0 y1 y2 y3 y4 y5 y6 y7 y8 y9 y10 y11;unfold gr_Draw.l0;rotate_left;intro y0 y1 y2 y3 y4 y5 y6 y7 y8 y9 y10 y11 y12;unfold gr_Draw.l1;rotate_left
  all_goals repeat' first
   | (with_reducible exact ih0 _ _ _ _ _ _ _ _ _)
   | (with_reducible exact ih1 _ _ _ _ _ _ _ _ _ _ _ _)
   | (with_reducible exact ih2 _ _ _ _ _ _ _ _ _ _ _ _ _)
   | (with_reducible exact gr_Check.mono _ _ _ _ _)
   | (with_reducible exact gr_color.mono _ _ _)
   | (with_reducible exact gr_place.mono _ _ _ _ _ _)
   | (with_reducible exact LeO.refl _)
   | (with_reducible exact LeO.none _)
   | (with_reducible refine LeO.ite ?_ ?_)
   | (with_reducible refine LeO.bind ?_ (fun _=>?_))
theorem gr_Draw.mono:∀ a0 a1 a2 a3 a4 a5 a6 a7 k,LeO (gr_Draw.f k a0 a1 a2 a3 a4 a5 a6 a7) (gr_Draw.f (k+1) a0 a1 a2 a3 a4 a5 a6 a7):=by
 intro a0 a1 a2 a3 a4 a5 a6 a7 k;obtain ⟨ih0,ih1,ih2⟩:=gr_Draw.mono_l k
 unfold gr_Draw.f
 repeat' first
   | (with_reducible exact ih0 _ _ _ _ _ _ _ _ _)
   | (with_reducible exact ih1 _ _ _ _ _ _ _ _ _ _ _ _)
   | (with_reducible exact ih2 _ _ _ _ _ _ _ _ _ _ _ _ _)
   | (with_reducible exact gr_Check.mono _ _ _ _ _)
   | (with_reducible exact gr_color.mono _ _ _)
   | (with_reducible exact gr_place.mono _ _ _ _ _ _)
   | (with_reducible exact LeO.refl _)
   | (with_reducible exact LeO.none _)
   | (with_reducible refine LeO.ite ?_ ?_)
   | (with_reducible refine LeO.bind ?_ (fun _=>?_))
def gr_Draw.T10:Bool × List (List Nat × List Nat):=(true,[([],[]),([0],[0]),([],[]),([2],[2]),([],[]),([4],[4]),([],[]),([6],[6]),([5,7],[5,7]),([8],[8]),([1,3,9],[1,3,9]),([],[]),([11,10,0,1,2,3,4,5,6,7,8,9,10,11],[10,11])])
def gr_Draw.B10:List Nat:=[0,1,0,4,0,16,0,64,240,496,1023,0,4095]
theorem gr_Draw.tab10:rtab .any (opsOf Try.f15 10)=gr_Draw.T10:=by kernel_rfl
theorem gr_Draw.bits10:waitsOk gr_Draw.T10.2 gr_Draw.B10=true:=by kernel_rfl
def gr_Draw.T17:Bool × List (List Nat × List Nat):=(true,[([],[]),([0],[0]),([],[]),([],[]),([],[]),([],[]),([],[]),([],[]),([3,4,5,6,7],[3,4,5,6,7]),([2,8,8],[2,8]),([9],[9]),([1,10,9],[1,10]),([0,1,2,3,4,5,6,7,8,9,10,11],[]),([12,11,11,0,1,2,3,4,5,6,7,8,9,10,11],[11,12])])
def gr_Draw.B17:List Nat:=[0,1,0,0,0,0,0,0,248,508,1020,2047,4095,8191]
theorem gr_Draw.tab17:rtab .any (opsOf Try.f15 17)=gr_Draw.T17:=by kernel_rfl
theorem gr_Draw.bits17:waitsOk gr_Draw.T17.2 gr_Draw.B17=true:=by kernel_rfl
set_option maxHeartbeats 8000000 in
set_option maxRecDepth 100000 in
theorem gr_Draw.calls (k:Nat) (a0:Int) (A1:Option Addr) (c1:Nat) (l1:List Int) (a2:Int) (A3:Option Addr) (c3:Nat) (l3:List (S47)) (a4_0:Int) (a4_1:Int) (a4_2:Int) (a4_3:Int) (r1:Int) (r2:Int) (r3:List (S38)) (r4:Int) (w:World) (hr1:Kd.C (Kd.int .i64) w A1 l1.length l1) (hc1:l1.length≤c1) (hr3:Kd.C k47 w A3 l3.length l3) (hc3:l3.length≤c3) (h:gr_Draw.f k a0 l1 a2 l3 a4_0 a4_1 a4_2 a4_3=some (r1,r2,r3,r4)) :
  Calls Try.prog 15 #[.int .i64 a0,.slice A1 l1.length c1,.int .i64 a2,.slice A3 l3.length c3,.agg #[.int .i64 a4_0,.int .i64 a4_1,.int .i64 a4_2,.int .i64 a4_3]] w fun e w'=>∃ v2_:Value,e = .returned (.tuple #[.agg #[.int .i64 r1,.int .i64 r2,v2_],.int .i64 r4])∧Kd.R k38 38 w' w.heap.size (fun _=>True) v2_ r3∧Below w.heap.size w w':=by
 have hu31:=Try.underlying31;have hu34:=Try.underlying34;have HR1:=Aside0.mk hr1;have HC1:=Aside0.mk hc1;clear hr1 hc1;have HR3:=Aside0.mk hr3;have HC3:=Aside0.mk hc3;clear hr3 hc3;have HB:=Aside0.mk (Below.refl w.heap.size w)
 have H:((gr_Check.f k a0 l1 a2 l3).bind fun t249=>(if t249=0 then ((rect_Valid.f a4_0 a4_1 a4_2 a4_3).bind fun t250=>(if t250=true then (if a4_2>256 then (gr_Draw.j0 k a0 l1 a2 l3 true a4_0 a4_1 a4_2 a4_3) else (gr_Draw.j0 k a0 l1 a2 l3 (decide (a4_3>256)) a4_0 a4_1 a4_2 a4_3)) else (some (0,0,([]:List (S38)),2)))) else (some (0,0,([]:List (S38)),t249))))=some (r1,r2,r3,r4):=h
 clear h;replace H:=Option.bind_eq_some_iff.mp H;obtain ⟨t249,A60,H⟩:=H
 replace H:(if t249=0 then ((rect_Valid.f a4_0 a4_1 a4_2 a4_3).bind fun t250=>(if t250=true then (if a4_2>256 then (gr_Draw.j0 k a0 l1 a2 l3 true a4_0 a4_1 a4_2 a4_3) else (gr_Draw.j0 k a0 l1 a2 l3 (decide (a4_3>256)) a4_0 a4_1 a4_2 a4_3)) else (some (0,0,([]:List (S38)),2)))) else (some (0,0,([]:List (S38)),t249)))=some (r1,r2,r3,r4):=H
 have A6:=Aside0.mk A60;clear A60;by_cases c7:t249=0
 ·rw [if_pos c7] at H
  have c7b0:=beq_iff_eq.mpr c7;have c7b1:=bne_eq_false_iff_eq.mpr c7;clear c7;replace H:=Option.bind_eq_some_iff.mp H;obtain ⟨t250,A80,H⟩:=H
  replace H:(if t250=true then (if a4_2>256 then (gr_Draw.j0 k a0 l1 a2 l3 true a4_0 a4_1 a4_2 a4_3) else (gr_Draw.j0 k a0 l1 a2 l3 (decide (a4_3>256)) a4_0 a4_1 a4_2 a4_3)) else (some (0,0,([]:List (S38)),2)))=some (r1,r2,r3,r4):=H
  have A8:=Aside0.mk A80;clear A80;by_cases c9:t250=true
  ·subst c9
   have H1:(if a4_2>256 then (gr_Draw.j0 k a0 l1 a2 l3 true a4_0 a4_1 a4_2 a4_3) else (gr_Draw.j0 k a0 l1 a2 l3 (decide (a4_3>256)) a4_0 a4_1 a4_2 a4_3))=some (r1,r2,r3,r4):=by rw [if_pos rfl] at H;exact H
   clear H;have H:=H1;clear H1;have HC10:=Aside0.mk H;clear H
   go_enter Try.func15,Try.ntmps15
   go_upto_region 6 with (first|((with_reducible refine gate_dst (N:=9) rfl ?_);refine box_event ?hg (N:=9) ?hd (cs:=#[.int .i64 a4_0,.int .i64 a4_1,.int .i64 a4_2,.int .i64 a4_3]) (t:=31) ?hr ?_;(case hd=>rfl);(case hg=>rfl);(case hr=>first|(go_simp;done)|(go_simp;rfl));intro gb247 hg w11 hbox hb;have n0_:=Aside0.mk (below_step (by repeat first|(with_reducible first|exact HB.out|apply lA_|apply lN_|apply lD_)|exact HB.out) hb);have n1_:=Aside0.mk (hbox);have n2_:=Aside0.mk ((by rw [hg];exact (below_size (by repeat first|(with_reducible first|exact HB.out|apply lA_|apply lN_|apply lD_)|exact HB.out)):w.heap.size≤gb247));have n3_:=Aside0.mk ((by rw [hg];exact (below_size (by repeat first|(with_reducible first|exact HB.out|apply lA_|apply lN_|apply lD_)|exact HB.out)):w.heap.size≤gb247));clear HB;have HB:=n0_;have BK247:=n1_;have GW247:=n2_;have GE247:=n3_;clear n0_ n1_ n2_ n3_;clear hb hbox hg)|((with_reducible refine gate_dst (N:=10) rfl ?_);refine box_event ?hg (N:=10) ?hd (cs:=#[.int .i64 0,.int .i64 0,.slice none 0 0]) (t:=34) ?hr ?_;(case hd=>rfl);(case hg=>rfl);(case hr=>first|(go_simp;done)|(go_simp;rfl));intro gb248 hg w12 hbox hb;have n0_:=Aside0.mk (blk_below (by (with_reducible repeat first|apply bN_|apply bD_|apply bA_);exact BK247.out) hb);have n1_:=Aside0.mk (below_step (by repeat first|(with_reducible first|exact HB.out|apply lA_|apply lN_|apply lD_|refine lS_ ?_ GE247.out)|exact HB.out) hb);have n2_:=Aside0.mk (hbox);have n3_:=Aside0.mk ((by rw [hg];exact (below_size (by repeat first|(with_reducible first|exact HB.out|apply lA_|apply lN_|apply lD_|refine lS_ ?_ GE247.out)|exact HB.out)):w.heap.size≤gb248));have n4_:=Aside0.mk ((by rw [hg];exact (below_size (by repeat first|(with_reducible first|exact HB.out|apply lA_|apply lN_|apply lD_|refine lS_ ?_ GE247.out)|exact HB.out)):w.heap.size≤gb248));have n5_:=Aside0.mk ((by rw [hg];exact Nat.ne_of_lt (blk_lt (g:=gb247) (o:=.cells #[.int .i64 a4_0,.int .i64 a4_1,.int .i64 a4_2,.int .i64 a4_3] 31 (0,0)) (by (with_reducible repeat first|apply bN_|apply bD_|apply bA_);exact BK247.out)):gb247 ≠ gb248));have n6_:=Aside0.mk ((by rw [hg];exact Nat.ne_of_gt (blk_lt (g:=gb247) (o:=.cells #[.int .i64 a4_0,.int .i64 a4_1,.int .i64 a4_2,.int .i64 a4_3] 31 (0,0)) (by (with_reducible repeat first|apply bN_|apply bD_|apply bA_);exact BK247.out)):gb248 ≠ gb247));clear BK247;clear HB;have BK247:=n0_;have HB:=n1_;have BK248:=n2_;have GW248:=n3_;have GE248:=n4_;have NB247_248:=n5_;have NB248_247:=n6_;clear n0_ n1_ n2_ n3_ n4_ n5_ n6_;clear hb hbox hg)|((with_reducible refine gate_callee (f:=16) rfl ?_);refine goesL_ (some 20) rfl rfl Try.func16 (by kernel_rfl) rfl #[.int .i64 a0,.slice A1 l1.length c1,.int .i64 a2,.slice A3 l3.length c3] rfl (by (try simp only [mA_,mC_,mN_]);first|done|rfl|(simp only [dL_,kL_];rfl)) ?_;(with_reducible refine (gr_Check.calls k a0 _ _ l1 a2 _ _ l3 t249 _ ?side1 ?side2 ?side3 ?side4 A6.out).mono ?_);(case side1=>repeat (first|exact (Kd.C_below HR1.out HB.out)|(with_reducible refine Kd.C_alloc ?_ _)|(with_reducible refine Kd.C_drewN ?_ _)|(with_reducible refine Kd.C_drew ?_)));(case side2=>exact HC1.out);(case side3=>repeat (first|exact (Kd.C_below HR3.out HB.out)|(with_reducible refine Kd.C_alloc ?_ _)|(with_reducible refine Kd.C_drewN ?_ _)|(with_reducible refine Kd.C_drew ?_)));(case side4=>exact HC3.out);rintro e w13 ⟨rfl,hb⟩;refine ⟨_,rfl,?_⟩;have n0_:=Aside0.mk (blk_below (by (with_reducible repeat first|apply bN_|apply bD_|apply bA_);exact BK247.out) hb);have n1_:=Aside0.mk (blk_below (by (with_reducible repeat first|apply bN_|apply bD_|apply bA_);exact BK248.out) hb);have n2_:=Aside0.mk (below_step (by repeat first|(with_reducible first|exact HB.out|apply lA_|apply lN_|apply lD_|refine lS_ ?_ GE247.out|refine lS_ ?_ GE248.out)|exact HB.out) hb);clear BK247;clear BK248;clear HB;have BK247:=n0_;have BK248:=n1_;have HB:=n2_;clear n0_ n1_ n2_;(try clear hb);(try clear hb2);(try clear hk);(try clear hi);have hnb14:=NB247_248.out;have hnc14:=NB248_247.out;have hcz15_0:w13.cell? ⟨gb247,0,none⟩=some (.int .i64 a4_0):=(blk_cell BK247.out 0).trans rfl;have hcz15_1:w13.cell? ⟨gb247,1,none⟩=some (.int .i64 a4_1):=(blk_cell BK247.out 1).trans rfl;have hcz15_2:w13.cell? ⟨gb247,2,none⟩=some (.int .i64 a4_2):=(blk_cell BK247.out 2).trans rfl;have hcz15_3:w13.cell? ⟨gb247,3,none⟩=some (.int .i64 a4_3):=(blk_cell BK247.out 3).trans rfl;have hfz15_0:=blk_frozen BK247.out 0;have hfz15_1:=blk_frozen BK247.out 1;have hfz15_2:=blk_frozen BK247.out 2;have hfz15_3:=blk_frozen BK247.out 3)|((with_reducible refine gate_callee (f:=27) rfl ?_);refine goesL_ (some 26) rfl rfl Try.func27 (by kernel_rfl) rfl #[.agg #[.int .i64 a4_0,.int .i64 a4_1,.int .i64 a4_2,.int .i64 a4_3]] rfl (by (try simp only [mA_,mC_,mN_]);first|done|rfl|(simp only [dL_,kL_];rfl)) ?_;(with_reducible refine (rect_Valid.calls a4_0 a4_1 a4_2 a4_3 true _ A8.out).mono ?_);rintro e w16 ⟨rfl,hb⟩;refine ⟨_,rfl,?_⟩;have n0_:=Aside0.mk (blk_below (by (with_reducible repeat first|apply bN_|apply bD_|apply bA_);exact BK247.out) hb);have n1_:=Aside0.mk (blk_below (by (with_reducible repeat first|apply bN_|apply bD_|apply bA_);exact BK248.out) hb);have n2_:=Aside0.mk (below_step (by repeat first|(with_reducible first|exact HB.out|apply lA_|apply lN_|apply lD_|refine lS_ ?_ GE247.out|refine lS_ ?_ GE248.out)|exact HB.out) hb);clear BK247;clear BK248;clear HB;have BK247:=n0_;have BK248:=n1_;have HB:=n2_;clear n0_ n1_ n2_;(try clear hb);(try clear hb2);(try clear hk);(try clear hi)))
   (try simp only [Act.put,tS_,tZ_,tC_])
   go_cut [36] (fun v36 wc=>∃ (kq:Nat) (x36_9:Bool),v36 = .bool x36_9∧Aside0 (gr_Draw.j0 kq a0 l1 a2 l3 x36_9 a4_0 a4_1 a4_2 a4_3=some (r1,r2,r3,r4))∧Aside0 (kq≤k)∧Aside0 (wc.heap[gb247]? = some (.cells #[.int .i64 a4_0,.int .i64 a4_1,.int .i64 a4_2,.int .i64 a4_3] 31 (0,0)))∧Aside0 (wc.heap[gb248]? = some (.cells #[.int .i64 0,.int .i64 0,(.slice none 0 0)] 34 (0,0)))∧Aside0 (Below w.heap.size w wc))
   case first =>
    have H:=HC10.out;clear HC10;by_cases c17:a4_2>256
    ·rw [if_pos c17] at H
     have c17b0:=decide_eq_true c17;clear c17
     (first|rw [c17b0]|(simp only [i64_w,i32_w];rw [c17b0])|skip)
     have H':=Aside0.mk H;clear H;have hnb18:=NB247_248.out;have hnc18:=NB248_247.out;have hcz19_0:w16.cell? ⟨gb247,0,none⟩=some (.int .i64 a4_0):=(blk_cell BK247.out 0).trans rfl;have hcz19_1:w16.cell? ⟨gb247,1,none⟩=some (.int .i64 a4_1):=(blk_cell BK247.out 1).trans rfl;have hcz19_2:w16.cell? ⟨gb247,2,none⟩=some (.int .i64 a4_2):=(blk_cell BK247.out 2).trans rfl;have hcz19_3:w16.cell? ⟨gb247,3,none⟩=some (.int .i64 a4_3):=(blk_cell BK247.out 3).trans rfl;have hfz19_0:=blk_frozen BK247.out 0;have hfz19_1:=blk_frozen BK247.out 1;have hfz19_2:=blk_frozen BK247.out 2;have hfz19_3:=blk_frozen BK247.out 3
     go_wp2
     go_meet
     case rel=>exact ⟨_,(true),(by first|rfl|(simp;done)|(simp [*];done)),H',⟨by first|omega|exact Nat.le_refl _⟩,⟨by (with_reducible repeat first|apply bN_|apply bD_|apply bA_);exact BK247.out⟩,⟨by (with_reducible repeat first|apply bN_|apply bD_|apply bA_);exact BK248.out⟩,⟨by repeat first|(with_reducible first|exact HB.out|apply lA_|apply lN_|apply lD_|refine lS_ ?_ GE247.out|refine lS_ ?_ GE248.out)|exact HB.out⟩⟩
    rw [if_neg c17] at H;have c17b0:=decide_eq_false c17;clear c17
    (first|rw [c17b0]|(simp only [i64_w,i32_w];rw [c17b0])|skip)
    have H':=Aside0.mk H;clear H;have hnb20:=NB247_248.out;have hnc20:=NB248_247.out;have hcz21_0:w16.cell? ⟨gb247,0,none⟩=some (.int .i64 a4_0):=(blk_cell BK247.out 0).trans rfl;have hcz21_1:w16.cell? ⟨gb247,1,none⟩=some (.int .i64 a4_1):=(blk_cell BK247.out 1).trans rfl;have hcz21_2:w16.cell? ⟨gb247,2,none⟩=some (.int .i64 a4_2):=(blk_cell BK247.out 2).trans rfl;have hcz21_3:w16.cell? ⟨gb247,3,none⟩=some (.int .i64 a4_3):=(blk_cell BK247.out 3).trans rfl;have hfz21_0:=blk_frozen BK247.out 0;have hfz21_1:=blk_frozen BK247.out 1;have hfz21_2:=blk_frozen BK247.out 2;have hfz21_3:=blk_frozen BK247.out 3
    go_wp2
    go_meet
    case rel=>exact ⟨_,(decide (a4_3>256)),(by first|rfl|(simp;done)|(simp [*];done)),H',⟨by first|omega|exact Nat.le_refl _⟩,⟨by (with_reducible repeat first|apply bN_|apply bD_|apply bA_);exact BK247.out⟩,⟨by (with_reducible repeat first|apply bN_|apply bD_|apply bA_);exact BK248.out⟩,⟨by repeat first|(with_reducible first|exact HB.out|apply lA_|apply lN_|apply lD_|refine lS_ ?_ GE247.out|refine lS_ ?_ GE248.out)|exact HB.out⟩⟩
   clear HC10;obtain ⟨kq,x36_9,rfl,HA,HJ9,BK247,BK248,HB⟩:=hcut
   cases kq with
   | zero=>exact absurd HA.out (by simp [gr_Draw.j0])
   | succ kj9 =>
    have H:=HA.out;clear HA;simp only [gr_Draw.j0] at H;by_cases c22:x36_9=true
    ·subst c22
     have H1:(some (0,0,([]:List (S38)),15))=some (r1,r2,r3,r4):=by rw [if_pos rfl] at H;exact H
     clear H;have H:=H1;clear H1;simp only [Option.some.injEq,Prod.mk.injEq] at H;obtain ⟨rfl,rfl,rfl,rfl⟩:=H;have hnb23:=NB248_247.out;have hnc23:=NB247_248.out;have hcz24_0:wc.cell? ⟨gb248,0,none⟩=some (.int .i64 0):=(blk_cell BK248.out 0).trans rfl;have hcz24_1:wc.cell? ⟨gb248,1,none⟩=some (.int .i64 0):=(blk_cell BK248.out 1).trans rfl;have hcz24_2:wc.cell? ⟨gb248,2,none⟩=some (.slice none 0 0):=(blk_cell BK248.out 2).trans rfl;have hfz24_0:=blk_frozen BK248.out 0;have hfz24_1:=blk_frozen BK248.out 1;have hfz24_2:=blk_frozen BK248.out 2
     go_wp2
     refine bodyPost_ret (results_ct rfl _ _ gb248 34 #[.int .i64 0,.int .i64 0,.slice none 0 0] (0,0) _ rfl (by (with_reducible repeat first|apply bN_|apply bD_|apply bA_);refine blk_put (cs:=#[.int .i64 0,.int .i64 0,.slice none 0 0]) ?_ 2 _ rfl;(with_reducible repeat first|apply bN_|apply bD_|apply bA_);refine blk_put (cs:=#[.int .i64 0,.int .i64 0,.slice none 0 0]) ?_ 1 _ rfl;(with_reducible repeat first|apply bN_|apply bD_|apply bA_);refine blk_put (cs:=#[.int .i64 0,.int .i64 0,.slice none 0 0]) ?_ 0 _ rfl;(with_reducible repeat first|apply bN_|apply bD_|apply bA_);exact BK248.out) Try.underlying34 rfl (by kernel_rfl)) rfl ?_
     exact ⟨_,by first|rfl|(simp [errW_none,errW_some] <;> rfl)|(simp [*,errW_none,errW_some] <;> rfl),by first|exact Kd.R_nil _ _ _ _ _|exact Kd.N_nil _ _ _ _ _|exact Kd.V_nil _ _ _ _ _|exact Kd.Q_nil _ _ _ _ _|exact Kd.S_nil _ _ _ _ _,by repeat first|(with_reducible first|exact HB.out|apply lA_|apply lN_|apply lD_|refine lS_ ?_ GE247.out|refine lS_ ?_ GE248.out)|exact HB.out⟩
    replace c22:=Bool.eq_false_iff.mpr c22;subst c22
    have H1:((rect_Empty.f a4_0 a4_1 a4_2 a4_3).bind fun t251=>(if t251=true then (some (0,0,([]:List (S38)),0)) else (if 0≤(wrap64 (a4_2*a4_3)) then (if (wrap64 (a4_2*a4_3):Int).toNat≤8796093022208 then (gr_Draw.l0 kj9 a0 l1 a2 l3 a4_1 a4_0 a4_1 a4_2 a4_3 a4_2 a4_3 (([]:List (S38)))) else (none)) else (none))))=some (r1,r2,r3,r4):=by rw [if_neg (show ¬ (false=true) by decide)] at H;exact H
    clear H;have H:=H1;clear H1;replace H:=Option.bind_eq_some_iff.mp H;obtain ⟨t251,A250,H⟩:=H
    replace H:(if t251=true then (some (0,0,([]:List (S38)),0)) else (if 0≤(wrap64 (a4_2*a4_3)) then (if (wrap64 (a4_2*a4_3):Int).toNat≤8796093022208 then (gr_Draw.l0 kj9 a0 l1 a2 l3 a4_1 a4_0 a4_1 a4_2 a4_3 a4_2 a4_3 (([]:List (S38)))) else (none)) else (none)))=some (r1,r2,r3,r4):=H
    have A25:=Aside0.mk A250;clear A250;by_cases c26:t251=true
    ·subst c26
     have H1:(some (0,0,([]:List (S38)),0))=some (r1,r2,r3,r4):=by rw [if_pos rfl] at H;exact H
     clear H;have H:=H1;clear H1;simp only [Option.some.injEq,Prod.mk.injEq] at H;obtain ⟨rfl,rfl,rfl,rfl⟩:=H;have hnb27:=NB247_248.out;have hnc27:=NB248_247.out;have hcz28_0:wc.cell? ⟨gb247,0,none⟩=some (.int .i64 a4_0):=(blk_cell BK247.out 0).trans rfl;have hcz28_1:wc.cell? ⟨gb247,1,none⟩=some (.int .i64 a4_1):=(blk_cell BK247.out 1).trans rfl;have hcz28_2:wc.cell? ⟨gb247,2,none⟩=some (.int .i64 a4_2):=(blk_cell BK247.out 2).trans rfl;have hcz28_3:wc.cell? ⟨gb247,3,none⟩=some (.int .i64 a4_3):=(blk_cell BK247.out 3).trans rfl;have hfz28_0:=blk_frozen BK247.out 0;have hfz28_1:=blk_frozen BK247.out 1;have hfz28_2:=blk_frozen BK247.out 2;have hfz28_3:=blk_frozen BK247.out 3
     go_wp2_with (first|((with_reducible refine gate_callee (f:=28) rfl ?_);refine goesL_ (some 39) rfl rfl Try.func28 (by kernel_rfl) rfl #[.agg #[.int .i64 a4_0,.int .i64 a4_1,.int .i64 a4_2,.int .i64 a4_3]] rfl (by (try simp only [mA_,mC_,mN_]);first|done|rfl|(simp only [dL_,kL_];rfl)) ?_;(with_reducible refine (rect_Empty.calls a4_0 a4_1 a4_2 a4_3 true _ A25.out).mono ?_);rintro e w29 ⟨rfl,hb⟩;refine ⟨_,rfl,?_⟩;have n0_:=Aside0.mk (blk_below (by (with_reducible repeat first|apply bN_|apply bD_|apply bA_);exact BK247.out) hb);have n1_:=Aside0.mk (blk_below (by (with_reducible repeat first|apply bN_|apply bD_|apply bA_);exact BK248.out) hb);have n2_:=Aside0.mk (below_step (by repeat first|(with_reducible first|exact HB.out|apply lA_|apply lN_|apply lD_|refine lS_ ?_ GE247.out|refine lS_ ?_ GE248.out)|exact HB.out) hb);clear BK247;clear BK248;clear HB;have BK247:=n0_;have BK248:=n1_;have HB:=n2_;clear n0_ n1_ n2_;(try clear hb);(try clear hb2);(try clear hk);(try clear hi);have hcz30_0:w29.cell? ⟨gb248,0,none⟩=some (.int .i64 0):=(blk_cell BK248.out 0).trans rfl;have hcz30_1:w29.cell? ⟨gb248,1,none⟩=some (.int .i64 0):=(blk_cell BK248.out 1).trans rfl;have hcz30_2:w29.cell? ⟨gb248,2,none⟩=some (.slice none 0 0):=(blk_cell BK248.out 2).trans rfl;have hfz30_0:=blk_frozen BK248.out 0;have hfz30_1:=blk_frozen BK248.out 1;have hfz30_2:=blk_frozen BK248.out 2))
     refine bodyPost_ret (results_ct rfl _ _ gb248 34 #[.int .i64 0,.int .i64 0,.slice none 0 0] (0,0) _ rfl (by (with_reducible repeat first|apply bN_|apply bD_|apply bA_);refine blk_put (cs:=#[.int .i64 0,.int .i64 0,.slice none 0 0]) ?_ 2 _ rfl;(with_reducible repeat first|apply bN_|apply bD_|apply bA_);refine blk_put (cs:=#[.int .i64 0,.int .i64 0,.slice none 0 0]) ?_ 1 _ rfl;(with_reducible repeat first|apply bN_|apply bD_|apply bA_);refine blk_put (cs:=#[.int .i64 0,.int .i64 0,.slice none 0 0]) ?_ 0 _ rfl;(with_reducible repeat first|apply bN_|apply bD_|apply bA_);exact BK248.out) Try.underlying34 rfl (by kernel_rfl)) rfl ?_
     exact ⟨_,by first|rfl|(simp [errW_none,errW_some] <;> rfl)|(simp [*,errW_none,errW_some] <;> rfl),by first|exact Kd.R_nil _ _ _ _ _|exact Kd.N_nil _ _ _ _ _|exact Kd.V_nil _ _ _ _ _|exact Kd.Q_nil _ _ _ _ _|exact Kd.S_nil _ _ _ _ _,by repeat first|(with_reducible first|exact HB.out|apply lA_|apply lN_|apply lD_|refine lS_ ?_ GE247.out|refine lS_ ?_ GE248.out)|exact HB.out⟩
    replace c26:=Bool.eq_false_iff.mpr c26;subst c26
    have H1:(if 0≤(wrap64 (a4_2*a4_3)) then (if (wrap64 (a4_2*a4_3):Int).toNat≤8796093022208 then (gr_Draw.l0 kj9 a0 l1 a2 l3 a4_1 a4_0 a4_1 a4_2 a4_3 a4_2 a4_3 (([]:List (S38)))) else (none)) else (none))=some (r1,r2,r3,r4):=by rw [if_neg (show ¬ (false=true) by decide)] at H;exact H
    clear H;have H:=H1;clear H1;obtain ⟨ji31,hji31⟩:∃ j_:Int,(wrap64 (a4_2*a4_3))=j_:=⟨_,rfl⟩
    replace H:(if 0≤(ji31) then (if (ji31:Int).toNat≤8796093022208 then (gr_Draw.l0 kj9 a0 l1 a2 l3 a4_1 a4_0 a4_1 a4_2 a4_3 a4_2 a4_3 (([]:List (S38)))) else (none)) else (none))=some (r1,r2,r3,r4):=by first|(rw [hji31] at H;exact H)|(simp only [hji31] at H ⊢;exact H)
    (try rw [hji31] at A25)
    have hji31w:(IntKind.i64.wrap (a4_2*a4_3))=ji31:=(i64_w _).trans hji31;by_cases c32:0≤(ji31)
    ·rw [if_pos c32] at H
     have c32b0:=eq_true c32;have c32b1:=decide_eq_true c32;clear c32;by_cases c33:(ji31:Int).toNat≤8796093022208
     ·rw [if_pos c33] at H
      have c33b0:=eq_true c33;have c33b1:=decide_eq_true c33;clear c33;obtain ⟨y252,hy252⟩:∃ y_:List (S38),y_=(([]:List (S38))):=⟨_,rfl⟩
      replace H:(gr_Draw.l0 kj9 a0 l1 a2 l3 a4_1 a4_0 a4_1 a4_2 a4_3 a4_2 a4_3 y252)=some (r1,r2,r3,r4):=by first|(rw [hy252];with_reducible exact H)|(have H2_:=(Option.bind_some _ _).symm.trans H;rw [hy252];with_reducible exact H2_)|(have H2_:=(Option.bind_some _ _).symm.trans H;with_reducible exact H2_)|with_reducible exact H|(rw [hy252];exact H)|exact H
      have Ny252:=Aside0.mk hy252;clear hy252;have H':=Aside0.mk H;clear H;have hnb34:=NB247_248.out;have hnc34:=NB248_247.out;have hcz35_0:wc.cell? ⟨gb247,0,none⟩=some (.int .i64 a4_0):=(blk_cell BK247.out 0).trans rfl;have hcz35_1:wc.cell? ⟨gb247,1,none⟩=some (.int .i64 a4_1):=(blk_cell BK247.out 1).trans rfl;have hcz35_2:wc.cell? ⟨gb247,2,none⟩=some (.int .i64 a4_2):=(blk_cell BK247.out 2).trans rfl;have hcz35_3:wc.cell? ⟨gb247,3,none⟩=some (.int .i64 a4_3):=(blk_cell BK247.out 3).trans rfl;have hfz35_0:=blk_frozen BK247.out 0;have hfz35_1:=blk_frozen BK247.out 1;have hfz35_2:=blk_frozen BK247.out 2;have hfz35_3:=blk_frozen BK247.out 3
      try go_wp2_with (first|((with_reducible refine gate_callee (f:=28) rfl ?_);refine goesL_ (some 39) rfl rfl Try.func28 (by kernel_rfl) rfl #[.agg #[.int .i64 a4_0,.int .i64 a4_1,.int .i64 a4_2,.int .i64 a4_3]] rfl (by (try simp only [mA_,mC_,mN_]);first|done|rfl|(simp only [dL_,kL_];rfl)) ?_;(with_reducible refine (rect_Empty.calls a4_0 a4_1 a4_2 a4_3 false _ A25.out).mono ?_);rintro e w36 ⟨rfl,hb⟩;refine ⟨_,rfl,?_⟩;have n0_:=Aside0.mk (blk_below (by (with_reducible repeat first|apply bN_|apply bD_|apply bA_);exact BK247.out) hb);have n1_:=Aside0.mk (blk_below (by (with_reducible repeat first|apply bN_|apply bD_|apply bA_);exact BK248.out) hb);have n2_:=Aside0.mk (below_step (by repeat first|(with_reducible first|exact HB.out|apply lA_|apply lN_|apply lD_|refine lS_ ?_ GE247.out|refine lS_ ?_ GE248.out)|exact HB.out) hb);clear BK247;clear BK248;clear HB;have BK247:=n0_;have BK248:=n1_;have HB:=n2_;clear n0_ n1_ n2_;(try clear hb);(try clear hb2);(try clear hk);(try clear hi)))
      have n0_:=Aside0.mk (blk_drew BK247.out);have n1_:=Aside0.mk (blk_drew BK248.out);have n2_:=Aside0.mk (lD_ HB.out);clear BK247 BK248 HB;have BK247:=n0_;have BK248:=n1_;have HB:=n2_;clear n0_ n1_ n2_
      refine start_ (n:=13) (S:=fun w'=>w'.cell? ⟨gb247,0,none⟩=some (.int .i64 a4_0)∧w'.cell? ⟨gb247,1,none⟩=some (.int .i64 a4_1)∧w'.cell? ⟨gb247,2,none⟩=some (.int .i64 a4_2)∧w'.cell? ⟨gb247,3,none⟩=some (.int .i64 a4_3)) (ds:=[]) #[F_,F_,F_,F_,F_,F_,F_,F_,F_,F_,F_,F_,F_] (by kernel_rfl) rfl rfl ⟨(blk_cell BK247.out 0).trans rfl,(blk_cell BK247.out 1).trans rfl,(blk_cell BK247.out 2).trans rfl,(blk_cell BK247.out 3).trans rfl⟩ (fun hHeld=>?_);refine with_tabW gr_Draw.tab10 gr_Draw.bits10 (fun HT_ HW_=>?_)
      generalize w36.drew=w37 at BK247 BK248 HB hHeld ⊢
      refine pure_ (i:=0) (N:=some 41) (v:=?_) (a':=?_) #[T_,F_,F_,F_,F_,F_,F_,F_,F_,F_,F_,F_,F_] rfl rfl (any_of HT_.out (by kernel_rfl)) (fun _ _ _ h=>h) (Or.inl ⟨by rfl,?_⟩) ?_ ?_
      rotate_left
      ·intro w'
       go_simp
       with_reducible rfl
      rotate_left
      ·simp only [Act.put,tS_,tZ_,tC_,i64_w,i32_w]
       rfl
      refine pure_ (i:=2) (N:=some 43) (v:=?_) (a':=?_) #[T_,F_,T_,F_,F_,F_,F_,F_,F_,F_,F_,F_,F_] rfl rfl (any_of HT_.out (by kernel_rfl)) (fun _ _ _ h=>h) (Or.inl ⟨by rfl,?_⟩) ?_ ?_
      rotate_left
      ·intro w'
       go_simp
       with_reducible rfl
      rotate_left
      ·simp only [Act.put,tS_,tZ_,tC_,i64_w,i32_w]
       rfl
      refine pure_ (i:=4) (N:=some 45) (v:=?_) (a':=?_) #[T_,F_,T_,F_,T_,F_,F_,F_,F_,F_,F_,F_,F_] rfl rfl (any_of HT_.out (by kernel_rfl)) (fun _ _ _ h=>h) (Or.inl ⟨by rfl,?_⟩) ?_ ?_
      rotate_left
      ·intro w'
       go_simp
       with_reducible rfl
      rotate_left
      ·simp only [Act.put,tS_,tZ_,tC_,i64_w,i32_w]
       rfl
      refine pure_ (i:=6) (N:=some 47) (v:=?_) (a':=?_) #[T_,F_,T_,F_,T_,F_,T_,F_,F_,F_,F_,F_,F_] rfl rfl (any_of HT_.out (by kernel_rfl)) (fun _ _ _ h=>h) (Or.inl ⟨by rfl,?_⟩) ?_ ?_
      rotate_left
      ·intro w'
       go_simp
       with_reducible rfl
      rotate_left
      ·simp only [Act.put,tS_,tZ_,tC_,i64_w,i32_w]
       rfl
      refine take_ (i:=1) (N:=some 42) (v:=?_) (a':=?_) #[T_,T_,T_,F_,T_,F_,T_,F_,F_,F_,F_,F_,F_] rfl rfl (take_ofW HT_.out HW_.out (by kernel_rfl)) (fun _ _ _ h=>h) (Or.inl ⟨by rfl,?_⟩) hHeld ?_ ?_
      rotate_left
      ·rintro w' ⟨s0,s1,s2,s3⟩
       go_simp
       with_reducible rfl
      rotate_left
      ·simp only [Act.put,tS_,tZ_,tC_,i64_w,i32_w]
       rfl
      refine take_ (i:=3) (N:=some 44) (v:=?_) (a':=?_) #[T_,T_,T_,T_,T_,F_,T_,F_,F_,F_,F_,F_,F_] rfl rfl (take_ofW HT_.out HW_.out (by kernel_rfl)) (fun _ _ _ h=>h) (Or.inl ⟨by rfl,?_⟩) hHeld ?_ ?_
      rotate_left
      ·rintro w' ⟨s0,s1,s2,s3⟩
       go_simp
       with_reducible rfl
      rotate_left
      ·simp only [Act.put,tS_,tZ_,tC_,i64_w,i32_w]
       rfl
      refine take_ (i:=5) (N:=some 46) (v:=?_) (a':=?_) #[T_,T_,T_,T_,T_,T_,T_,F_,F_,F_,F_,F_,F_] rfl rfl (take_ofW HT_.out HW_.out (by kernel_rfl)) (fun _ _ _ h=>h) (Or.inl ⟨by rfl,?_⟩) hHeld ?_ ?_
      rotate_left
      ·rintro w' ⟨s0,s1,s2,s3⟩
       go_simp
       with_reducible rfl
      rotate_left
      ·simp only [Act.put,tS_,tZ_,tC_,i64_w,i32_w]
       rfl
      refine take_ (i:=7) (N:=some 48) (v:=?_) (a':=?_) #[T_,T_,T_,T_,T_,T_,T_,T_,F_,F_,F_,F_,F_] rfl rfl (take_ofW HT_.out HW_.out (by kernel_rfl)) (fun _ _ _ h=>h) (Or.inl ⟨by rfl,?_⟩) hHeld ?_ ?_
      rotate_left
      ·rintro w' ⟨s0,s1,s2,s3⟩
       go_simp
       with_reducible rfl
      rotate_left
      ·simp only [Act.put,tS_,tZ_,tC_,i64_w,i32_w]
       rfl
      refine pure_ (i:=8) (N:=some 49) (v:=?_) (a':=?_) #[T_,T_,T_,T_,T_,T_,T_,T_,T_,F_,F_,F_,F_] rfl rfl (any_of HT_.out (by kernel_rfl)) (fun _ _ _ h=>h) (Or.inl ⟨by rfl,?_⟩) ?_ ?_
      rotate_left
      ·intro w'
       go_simp
       with_reducible rfl
      rotate_left
      ·simp only [Act.put,tS_,tZ_,tC_,i64_w,i32_w]
       rfl
      refine join_ (σ:=Value × Nat) 1 #[T_,T_,T_,T_,T_,T_,T_,T_,T_,T_,T_,T_,F_] (fun s_=>[(50,s_.1),(13,.pointer (some ⟨s_.2,0,none⟩)),(51,.agg #[.int .i64 a4_2,.int .i64 a4_3,s_.1])]) (fun s_ w'=>(w'.cell? ⟨gb247,0,none⟩=some (.int .i64 a4_0)∧w'.cell? ⟨gb247,1,none⟩=some (.int .i64 a4_1)∧w'.cell? ⟨gb247,2,none⟩=some (.int .i64 a4_2)∧w'.cell? ⟨gb247,3,none⟩=some (.int .i64 a4_3))∧(Kd.R k38 38 w' w.heap.size (fun _=>True) s_.1 y252)∧(w'.heap[gb247]? = some (.cells #[.int .i64 a4_0,.int .i64 a4_1,.int .i64 a4_2,.int .i64 a4_3] 31 (0,0)))∧(w'.heap[gb248]? = some (.cells #[.int .i64 0,.int .i64 0,.slice none 0 0] 34 (0,0)))∧(w'.heap[s_.2]? = some (.cells #[.int .i64 0,.int .i64 0,.slice none 0 0] 34 (0,0)))∧(w.heap.size≤s_.2)∧(w.heap.size≤s_.2)∧(gb247 ≠ s_.2)∧(s_.2 ≠ gb247)∧(gb248 ≠ s_.2)∧(s_.2 ≠ gb248)∧(Below w.heap.size w w')) ?_ ?_
      rotate_left
      ·intro hCont
       refine two_ (i:=9) (j:=11) (Ni:=some 50) (Nj:=some 13) #[T_,T_,T_,T_,T_,T_,T_,T_,T_,T_,F_,F_,F_] #[T_,T_,T_,T_,T_,T_,T_,T_,T_,F_,F_,T_,F_] rfl rfl rfl rfl (two_of HT_.out (by kernel_rfl)) (by decide) (by decide) (fun K hK=>?_) (fun K hK=>?_)
       ·skip
        refine R_make0_step k38 _ 38 (by rfl) (N:=50) rfl 32 _ _ rfl ji31 rfl rfl Try.underlying32 (.agg #[(.int .i64 0),(.int .i64 0),(.int .i64 0),(.int .i64 0)]) 32 info38 rfl (by decide) (by omega) z38 (ok:=fun _=>True) (okp:=fun _=>True) (k38_mkM _ _ _ z38 ) (fun _ hk=>hk) trivial (of_decide_eq_true (by first|(with_reducible assumption)|assumption)) (Nat.le_trans (Nat.mul_le_mul_right _ (of_decide_eq_true (by first|(with_reducible assumption)|assumption):ji31.toNat≤8796093022208)) (by omega)) (Below.refl _ _) (Nat.le_refl _) ?_
        intro v253 w38 ho39 hb hg_ hnew_;clear hg_ hnew_
        (first|rw [← Ny252.out] at ho39|(simp only [Int.reduceToNat] at ho39;rw [← Ny252.out] at ho39))
        have n0_:=Aside0.mk (Kd.R_lower ho39 (below_size (by repeat first|(with_reducible first|exact HB.out|apply lA_|apply lN_|apply lD_|refine lS_ ?_ GE247.out|refine lS_ ?_ GE248.out)|exact HB.out)))
        have n1_:=Aside0.mk (blk_below (by (with_reducible repeat first|apply bN_|apply bD_|apply bA_);exact BK247.out) hb)
        have n2_:=Aside0.mk (blk_below (by (with_reducible repeat first|apply bN_|apply bD_|apply bA_);exact BK248.out) hb)
        have n3_:=Aside0.mk (below_step (by repeat first|(with_reducible first|exact HB.out|apply lA_|apply lN_|apply lD_|refine lS_ ?_ GE247.out|refine lS_ ?_ GE248.out)|exact HB.out) hb)
        clear BK247 BK248 HB;have HO254:=n0_;have BK247:=n1_;have BK248:=n2_;have HB:=n3_;clear n0_ n1_ n2_ n3_ hb ho39;obtain ⟨Ao40,co40,eo40⟩:=Kd.R_slice HO254.out
        (first|subst eo40|(injection eo40 with f1_ f2_ f3_;have f4_:=f1_.symm;have f5_:=f3_.symm;clear f1_ f2_ f3_;subst f4_;subst f5_))
        refine hK.out _ _ ⟨(blk_cell BK247.out 0).trans rfl,(blk_cell BK247.out 1).trans rfl,(blk_cell BK247.out 2).trans rfl,(blk_cell BK247.out 3).trans rfl⟩ (fun hHeld=>?_)
        clear hK K;refine norm_ (a':=?_) ?_ ?_;rotate_left
        ·show Act.put _ (some 50) _=_
         simp only [Act.put,tS_,tZ_,tC_,i64_w,i32_w];rfl
        refine pure_ (i:=10) (N:=some 51) (v:=?_) (a':=?_) #[T_,T_,T_,T_,T_,T_,T_,T_,T_,T_,T_,F_,F_] rfl rfl (any_of HT_.out (by kernel_rfl)) (fun _ _ _ h=>h) (Or.inl ⟨by rfl,?_⟩) ?_ ?_
        rotate_left
        ·intro w'
         go_simp
         with_reducible rfl
        rotate_left
        ·simp only [Act.put,tS_,tZ_,tC_,i64_w,i32_w]
         rfl
        refine one_ (i:=11) (N:=some 13) #[T_,T_,T_,T_,T_,T_,T_,T_,T_,T_,T_,T_,F_] rfl rfl (one_of HT_.out (by kernel_rfl)) (by decide) (fun K hK=>?_)
        refine box_step ?hg (N:=13) ?hd (cs:=#[.int .i64 0,.int .i64 0,.slice none 0 0]) (t:=34) ?hr ?_;(case hd=>rfl);(case hg=>rfl);(case hr=>first|(go_simp;done)|(go_simp;rfl))
        intro gb255 hg w41 hbox hb
        have n0_:=Aside0.mk (Kd.R_below (by (with_reducible repeat (first|apply Kd.R_alloc|apply Kd.R_drewN|apply Kd.R_drew));exact HO254.out) hb)
        have n1_:=Aside0.mk (blk_below (by (with_reducible repeat first|apply bN_|apply bD_|apply bA_);exact BK247.out) hb)
        have n2_:=Aside0.mk (blk_below (by (with_reducible repeat first|apply bN_|apply bD_|apply bA_);exact BK248.out) hb)
        have n3_:=Aside0.mk (below_step (by repeat first|(with_reducible first|exact HB.out|apply lA_|apply lN_|apply lD_|refine lS_ ?_ GE247.out|refine lS_ ?_ GE248.out)|exact HB.out) hb)
        have n4_:=Aside0.mk (hbox)
        have n5_:=Aside0.mk ((by rw [hg];exact (below_size (by repeat first|(with_reducible first|exact HB.out|apply lA_|apply lN_|apply lD_|refine lS_ ?_ GE247.out|refine lS_ ?_ GE248.out)|exact HB.out)):w.heap.size≤gb255))
        have n6_:=Aside0.mk ((by rw [hg];exact (below_size (by repeat first|(with_reducible first|exact HB.out|apply lA_|apply lN_|apply lD_|refine lS_ ?_ GE247.out|refine lS_ ?_ GE248.out)|exact HB.out)):w.heap.size≤gb255))
        have n7_:=Aside0.mk ((by rw [hg];exact Nat.ne_of_lt (blk_lt (g:=gb247) (o:=.cells #[.int .i64 a4_0,.int .i64 a4_1,.int .i64 a4_2,.int .i64 a4_3] 31 (0,0)) (by (with_reducible repeat first|apply bN_|apply bD_|apply bA_);exact BK247.out)):gb247 ≠ gb255))
        have n8_:=Aside0.mk ((by rw [hg];exact Nat.ne_of_gt (blk_lt (g:=gb247) (o:=.cells #[.int .i64 a4_0,.int .i64 a4_1,.int .i64 a4_2,.int .i64 a4_3] 31 (0,0)) (by (with_reducible repeat first|apply bN_|apply bD_|apply bA_);exact BK247.out)):gb255 ≠ gb247))
        have n9_:=Aside0.mk ((by rw [hg];exact Nat.ne_of_lt (blk_lt (g:=gb248) (o:=.cells #[.int .i64 0,.int .i64 0,.slice none 0 0] 34 (0,0)) (by (with_reducible repeat first|apply bN_|apply bD_|apply bA_);exact BK248.out)):gb248 ≠ gb255))
        have n10_:=Aside0.mk ((by rw [hg];exact Nat.ne_of_gt (blk_lt (g:=gb248) (o:=.cells #[.int .i64 0,.int .i64 0,.slice none 0 0] 34 (0,0)) (by (with_reducible repeat first|apply bN_|apply bD_|apply bA_);exact BK248.out)):gb255 ≠ gb248))
        clear HO254 BK247 BK248 HB;have HO254:=n0_;have BK247:=n1_;have BK248:=n2_;have HB:=n3_;have BK255:=n4_;have GW255:=n5_;have GE255:=n6_;have NB247_255:=n7_;have NB255_247:=n8_;have NB248_255:=n9_;have NB255_248:=n10_;clear n0_ n1_ n2_ n3_ n4_ n5_ n6_ n7_ n8_ n9_ n10_ hb hbox hg
        refine hK.out _ _ ⟨(blk_cell BK247.out 0).trans rfl,(blk_cell BK247.out 1).trans rfl,(blk_cell BK247.out 2).trans rfl,(blk_cell BK247.out 3).trans rfl⟩ (fun hHeld=>?_)
        clear hK K;refine norm_ (a':=?_) ?_ ?_;rotate_left
        ·show Act.put _ (some 13) _=_
         simp only [Act.put,tS_,tZ_,tC_,i64_w,i32_w];rfl
        exact norm_ (by simp only [putAll,Act.put,tS_,tZ_,tC_]) (hCont (.slice Ao40 y252.length co40,gb255) _ ⟨hHeld,(by (with_reducible repeat (first|apply Kd.R_alloc|apply Kd.R_drewN|apply Kd.R_drew));exact HO254.out),(by (with_reducible repeat first|apply bN_|apply bD_|apply bA_);exact BK247.out),(by (with_reducible repeat first|apply bN_|apply bD_|apply bA_);exact BK248.out),(by (with_reducible repeat first|apply bN_|apply bD_|apply bA_);exact BK255.out),GW255.out,GE255.out,NB247_255.out,NB255_247.out,NB248_255.out,NB255_248.out,(by repeat first|(with_reducible first|exact HB.out|apply lA_|apply lN_|apply lD_|refine lS_ ?_ GE247.out|refine lS_ ?_ GE248.out|refine lS_ ?_ GE255.out)|exact HB.out)⟩)
       skip
       refine box_step ?hg (N:=13) ?hd (cs:=#[.int .i64 0,.int .i64 0,.slice none 0 0]) (t:=34) ?hr ?_;(case hd=>rfl);(case hg=>rfl);(case hr=>first|(go_simp;done)|(go_simp;rfl))
       intro gb255 hg w38 hbox hb
       have n0_:=Aside0.mk (blk_below (by (with_reducible repeat first|apply bN_|apply bD_|apply bA_);exact BK247.out) hb)
       have n1_:=Aside0.mk (blk_below (by (with_reducible repeat first|apply bN_|apply bD_|apply bA_);exact BK248.out) hb)
       have n2_:=Aside0.mk (below_step (by repeat first|(with_reducible first|exact HB.out|apply lA_|apply lN_|apply lD_|refine lS_ ?_ GE247.out|refine lS_ ?_ GE248.out)|exact HB.out) hb)
       have n3_:=Aside0.mk (hbox)
       have n4_:=Aside0.mk ((by rw [hg];exact (below_size (by repeat first|(with_reducible first|exact HB.out|apply lA_|apply lN_|apply lD_|refine lS_ ?_ GE247.out|refine lS_ ?_ GE248.out)|exact HB.out)):w.heap.size≤gb255))
       have n5_:=Aside0.mk ((by rw [hg];exact (below_size (by repeat first|(with_reducible first|exact HB.out|apply lA_|apply lN_|apply lD_|refine lS_ ?_ GE247.out|refine lS_ ?_ GE248.out)|exact HB.out)):w.heap.size≤gb255))
       have n6_:=Aside0.mk ((by rw [hg];exact Nat.ne_of_lt (blk_lt (g:=gb247) (o:=.cells #[.int .i64 a4_0,.int .i64 a4_1,.int .i64 a4_2,.int .i64 a4_3] 31 (0,0)) (by (with_reducible repeat first|apply bN_|apply bD_|apply bA_);exact BK247.out)):gb247 ≠ gb255))
       have n7_:=Aside0.mk ((by rw [hg];exact Nat.ne_of_gt (blk_lt (g:=gb247) (o:=.cells #[.int .i64 a4_0,.int .i64 a4_1,.int .i64 a4_2,.int .i64 a4_3] 31 (0,0)) (by (with_reducible repeat first|apply bN_|apply bD_|apply bA_);exact BK247.out)):gb255 ≠ gb247))
       have n8_:=Aside0.mk ((by rw [hg];exact Nat.ne_of_lt (blk_lt (g:=gb248) (o:=.cells #[.int .i64 0,.int .i64 0,.slice none 0 0] 34 (0,0)) (by (with_reducible repeat first|apply bN_|apply bD_|apply bA_);exact BK248.out)):gb248 ≠ gb255))
       have n9_:=Aside0.mk ((by rw [hg];exact Nat.ne_of_gt (blk_lt (g:=gb248) (o:=.cells #[.int .i64 0,.int .i64 0,.slice none 0 0] 34 (0,0)) (by (with_reducible repeat first|apply bN_|apply bD_|apply bA_);exact BK248.out)):gb255 ≠ gb248))
       clear BK247 BK248 HB;have BK247:=n0_;have BK248:=n1_;have HB:=n2_;have BK255:=n3_;have GW255:=n4_;have GE255:=n5_;have NB247_255:=n6_;have NB255_247:=n7_;have NB248_255:=n8_;have NB255_248:=n9_;clear n0_ n1_ n2_ n3_ n4_ n5_ n6_ n7_ n8_ n9_ hb hbox hg
       refine hK.out _ _ ⟨(blk_cell BK247.out 0).trans rfl,(blk_cell BK247.out 1).trans rfl,(blk_cell BK247.out 2).trans rfl,(blk_cell BK247.out 3).trans rfl⟩ (fun hHeld=>?_)
       clear hK K;refine norm_ (a':=?_) ?_ ?_;rotate_left
       ·show Act.put _ (some 13) _=_
        simp only [Act.put,tS_,tZ_,tC_,i64_w,i32_w];rfl
       refine one_ (i:=9) (N:=some 50) #[T_,T_,T_,T_,T_,T_,T_,T_,T_,T_,F_,T_,F_] rfl rfl (one_of HT_.out (by kernel_rfl)) (by decide) (fun K hK=>?_)
       refine R_make0_step k38 _ 38 (by rfl) (N:=50) rfl 32 _ _ rfl ji31 rfl rfl Try.underlying32 (.agg #[(.int .i64 0),(.int .i64 0),(.int .i64 0),(.int .i64 0)]) 32 info38 rfl (by decide) (by omega) z38 (ok:=fun _=>True) (okp:=fun _=>True) (k38_mkM _ _ _ z38 ) (fun _ hk=>hk) trivial (of_decide_eq_true (by first|(with_reducible assumption)|assumption)) (Nat.le_trans (Nat.mul_le_mul_right _ (of_decide_eq_true (by first|(with_reducible assumption)|assumption):ji31.toNat≤8796093022208)) (by omega)) (Below.refl _ _) (Nat.le_refl _) ?_
       intro v253 w39 ho40 hb hg_ hnew_;clear hg_ hnew_
       (first|rw [← Ny252.out] at ho40|(simp only [Int.reduceToNat] at ho40;rw [← Ny252.out] at ho40))
       have n0_:=Aside0.mk (Kd.R_lower ho40 (below_size (by repeat first|(with_reducible first|exact HB.out|apply lA_|apply lN_|apply lD_|refine lS_ ?_ GE247.out|refine lS_ ?_ GE248.out|refine lS_ ?_ GE255.out)|exact HB.out)))
       have n1_:=Aside0.mk (blk_below (by (with_reducible repeat first|apply bN_|apply bD_|apply bA_);exact BK247.out) hb)
       have n2_:=Aside0.mk (blk_below (by (with_reducible repeat first|apply bN_|apply bD_|apply bA_);exact BK248.out) hb)
       have n3_:=Aside0.mk (blk_below (by (with_reducible repeat first|apply bN_|apply bD_|apply bA_);exact BK255.out) hb)
       have n4_:=Aside0.mk (below_step (by repeat first|(with_reducible first|exact HB.out|apply lA_|apply lN_|apply lD_|refine lS_ ?_ GE247.out|refine lS_ ?_ GE248.out|refine lS_ ?_ GE255.out)|exact HB.out) hb)
       clear BK247 BK248 BK255 HB;have HO254:=n0_;have BK247:=n1_;have BK248:=n2_;have BK255:=n3_;have HB:=n4_;clear n0_ n1_ n2_ n3_ n4_ hb ho40;obtain ⟨Ao41,co41,eo41⟩:=Kd.R_slice HO254.out
       (first|subst eo41|(injection eo41 with f1_ f2_ f3_;have f4_:=f1_.symm;have f5_:=f3_.symm;clear f1_ f2_ f3_;subst f4_;subst f5_))
       refine hK.out _ _ ⟨(blk_cell BK247.out 0).trans rfl,(blk_cell BK247.out 1).trans rfl,(blk_cell BK247.out 2).trans rfl,(blk_cell BK247.out 3).trans rfl⟩ (fun hHeld=>?_)
       clear hK K;refine norm_ (a':=?_) ?_ ?_;rotate_left
       ·show Act.put _ (some 50) _=_
        simp only [Act.put,tS_,tZ_,tC_,i64_w,i32_w];rfl
       refine pure_ (i:=10) (N:=some 51) (v:=?_) (a':=?_) #[T_,T_,T_,T_,T_,T_,T_,T_,T_,T_,T_,T_,F_] rfl rfl (any_of HT_.out (by kernel_rfl)) (fun _ _ _ h=>h) (Or.inl ⟨by rfl,?_⟩) ?_ ?_
       rotate_left
       ·intro w'
        go_simp
        with_reducible rfl
       rotate_left
       ·simp only [Act.put,tS_,tZ_,tC_,i64_w,i32_w]
        rfl
       exact norm_ (by simp only [putAll,Act.put,tS_,tZ_,tC_]) (hCont (.slice Ao41 y252.length co41,gb255) _ ⟨hHeld,(by (with_reducible repeat (first|apply Kd.R_alloc|apply Kd.R_drewN|apply Kd.R_drew));exact HO254.out),(by (with_reducible repeat first|apply bN_|apply bD_|apply bA_);exact BK247.out),(by (with_reducible repeat first|apply bN_|apply bD_|apply bA_);exact BK248.out),(by (with_reducible repeat first|apply bN_|apply bD_|apply bA_);exact BK255.out),GW255.out,GE255.out,NB247_255.out,NB255_247.out,NB248_255.out,NB255_248.out,(by repeat first|(with_reducible first|exact HB.out|apply lA_|apply lN_|apply lD_|refine lS_ ?_ GE247.out|refine lS_ ?_ GE248.out|refine lS_ ?_ GE255.out)|exact HB.out)⟩)
      rintro ⟨v253,gb255⟩ w42 ⟨hS_,h0_,h1_,h2_,h3_,h4_,h5_,h6_,h7_,h8_,h9_,h10_⟩
      have n0_:Aside0 (Kd.R k38 38 w42 w.heap.size (fun _=>True) v253 y252):=⟨h0_⟩
      have n1_:Aside0 (w42.heap[gb247]? = some (.cells #[.int .i64 a4_0,.int .i64 a4_1,.int .i64 a4_2,.int .i64 a4_3] 31 (0,0))):=⟨h1_⟩;have n2_:Aside0 (w42.heap[gb248]? = some (.cells #[.int .i64 0,.int .i64 0,.slice none 0 0] 34 (0,0))):=⟨h2_⟩;have n3_:Aside0 (w42.heap[gb255]? = some (.cells #[.int .i64 0,.int .i64 0,.slice none 0 0] 34 (0,0))):=⟨h3_⟩;have n4_:Aside0 (w.heap.size≤gb255):=⟨h4_⟩;have n5_:Aside0 (w.heap.size≤gb255):=⟨h5_⟩;have n6_:Aside0 (gb247 ≠ gb255):=⟨h6_⟩;have n7_:Aside0 (gb255 ≠ gb247):=⟨h7_⟩;have n8_:Aside0 (gb248 ≠ gb255):=⟨h8_⟩;have n9_:Aside0 (gb255 ≠ gb248):=⟨h9_⟩;have n10_:Aside0 (Below w.heap.size w w42):=⟨h10_⟩;clear BK247 BK248 HB h0_ h1_ h2_ h3_ h4_ h5_ h6_ h7_ h8_ h9_ h10_;have HO254:=n0_;have BK247:=n1_;have BK248:=n2_;have BK255:=n3_;have GW255:=n4_;have GE255:=n5_;have NB247_255:=n6_;have NB255_247:=n7_;have NB248_255:=n8_;have NB255_248:=n9_;have HB:=n10_;clear n0_ n1_ n2_ n3_ n4_ n5_ n6_ n7_ n8_ n9_ n10_;have hHeld:w42.cell? ⟨gb247,0,none⟩=some (.int .i64 a4_0)∧w42.cell? ⟨gb247,1,none⟩=some (.int .i64 a4_1)∧w42.cell? ⟨gb247,2,none⟩=some (.int .i64 a4_2)∧w42.cell? ⟨gb247,3,none⟩=some (.int .i64 a4_3):=hS_;obtain ⟨Ao43,co43,eo43⟩:=Kd.R_slice HO254.out
      (first|subst eo43|(injection eo43 with f1_ f2_ f3_;have f4_:=f1_.symm;have f5_:=f3_.symm;clear f1_ f2_ f3_;subst f4_;subst f5_))
      refine norm_ (a':=?_) ?_ ?_;rotate_left
      ·simp only [putAll,Act.put,tS_,tZ_,tC_]
       rfl
      refine one_ (i:=12) (N:=none) #[T_,T_,T_,T_,T_,T_,T_,T_,T_,T_,T_,T_,T_] rfl rfl (one_of HT_.out (by kernel_rfl)) (by decide) (fun K hK=>?_)
      have hs44:w42.cell? ⟨gb255,0,none⟩=some (.int .i64 0):=(blk_cell BK255.out 0).trans rfl;have hfs44:=blk_frozen BK255.out 0;have hns44_0:=NB247_255.out;have hns44_1:=NB248_255.out;have hms44_0:=NB255_247.out;have hms44_1:=NB255_248.out;have hs45:w42.cell? ⟨gb255,1,none⟩=some (.int .i64 0):=(blk_cell BK255.out 1).trans rfl;have hfs45:=blk_frozen BK255.out 1;have hns45_0:=NB247_255.out;have hns45_1:=NB248_255.out;have hms45_0:=NB255_247.out;have hms45_1:=NB255_248.out;have hs46:w42.cell? ⟨gb255,2,none⟩=some (.slice none 0 0):=(blk_cell BK255.out 2).trans rfl;have hfs46:=blk_frozen BK255.out 2;have hns46_0:=NB247_255.out;have hns46_1:=NB248_255.out;have hms46_0:=NB255_247.out;have hms46_1:=NB255_248.out
      refine skip_ (w1:=?_) (by rfl) rfl ?_ ?_
      rotate_left
      ·go_simp
       rfl
      refine hK.out _ _ ⟨((cell_far (p:=⟨gb255,_,none⟩) NB247_255.out _).trans (((cell_far (p:=⟨gb255,_,none⟩) NB247_255.out _).trans (((cell_far (p:=⟨gb255,_,none⟩) NB247_255.out _).trans (hHeld.1)))))),((cell_far (p:=⟨gb255,_,none⟩) NB247_255.out _).trans (((cell_far (p:=⟨gb255,_,none⟩) NB247_255.out _).trans (((cell_far (p:=⟨gb255,_,none⟩) NB247_255.out _).trans (hHeld.2.1)))))),((cell_far (p:=⟨gb255,_,none⟩) NB247_255.out _).trans (((cell_far (p:=⟨gb255,_,none⟩) NB247_255.out _).trans (((cell_far (p:=⟨gb255,_,none⟩) NB247_255.out _).trans (hHeld.2.2.1)))))),((cell_far (p:=⟨gb255,_,none⟩) NB247_255.out _).trans (((cell_far (p:=⟨gb255,_,none⟩) NB247_255.out _).trans (((cell_far (p:=⟨gb255,_,none⟩) NB247_255.out _).trans (hHeld.2.2.2))))))⟩ (fun hHeld=>?_)
      clear hK K
      refine done_ (done_of HT_.out (by kernel_rfl)) ?_
      have hnb47:=NB247_255.out;have hnc47:=NB255_247.out;have hcz48_0:w42.cell? ⟨gb247,0,none⟩=some (.int .i64 a4_0):=(blk_cell BK247.out 0).trans rfl;have hcz48_1:w42.cell? ⟨gb247,1,none⟩=some (.int .i64 a4_1):=(blk_cell BK247.out 1).trans rfl;have hcz48_2:w42.cell? ⟨gb247,2,none⟩=some (.int .i64 a4_2):=(blk_cell BK247.out 2).trans rfl;have hcz48_3:w42.cell? ⟨gb247,3,none⟩=some (.int .i64 a4_3):=(blk_cell BK247.out 3).trans rfl;have hfz48_0:=blk_frozen BK247.out 0;have hfz48_1:=blk_frozen BK247.out 1;have hfz48_2:=blk_frozen BK247.out 2;have hfz48_3:=blk_frozen BK247.out 3
      try go_wp2
      go_loopg [14] kj9 (fun kq v14 w'=>∃ (x14_2:Int) (x256002_2:List (S38)) (u256002:Value),v14 = .int .i64 x14_2∧Aside0 (gr_Draw.l0 kq a0 l1 a2 l3 x14_2 a4_0 a4_1 a4_2 a4_3 a4_2 a4_3 x256002_2=some (r1,r2,r3,r4))∧Aside0 (kq≤kj9)∧Aside0 (Kd.R k38 38 w' w.heap.size (fun _=>True) u256002 x256002_2)∧Aside0 (w'.heap[gb247]? = some (.cells #[.int .i64 a4_0,.int .i64 a4_1,.int .i64 a4_2,.int .i64 a4_3] 31 (0,0)))∧Aside0 (w'.heap[gb248]? = some (.cells #[.int .i64 0,.int .i64 0,(.slice none 0 0)] 34 (0,0)))∧Aside0 (w'.heap[gb255]? = some (.cells #[.int .i64 a4_2,.int .i64 a4_3,u256002] 34 (0,0)))∧Aside0 (Below w.heap.size w w'))
      case atStart=>exact ⟨(a4_1),(y252),(.slice Ao43 y252.length co43),(by first|rfl|(simp;done)|(simp [*];done)),H',⟨Nat.le_refl _⟩,⟨by (with_reducible repeat (first|apply Kd.R_alloc|apply Kd.R_drewN|apply Kd.R_drew));exact Kd.R_mono (Kd.R_far (p:=⟨gb255,2,none⟩) (Kd.R_far (p:=⟨gb255,1,none⟩) (Kd.R_far (p:=⟨gb255,0,none⟩) (Kd.R_types HO254.out BK255.out (by decide)) (fun _ hk=>hk.2) (.int .i64 a4_2)) (fun _ hk=>hk.2) (.int .i64 a4_3)) (fun _ hk=>hk.2) (.slice Ao43 y252.length co43)) (fun _ hk=>trivial)⟩,⟨by (with_reducible repeat first|apply bN_|apply bD_|apply bA_);refine blk_far ?_ NB247_255.out _;(with_reducible repeat first|apply bN_|apply bD_|apply bA_);refine blk_far ?_ NB247_255.out _;(with_reducible repeat first|apply bN_|apply bD_|apply bA_);refine blk_far ?_ NB247_255.out _;(with_reducible repeat first|apply bN_|apply bD_|apply bA_);exact BK247.out⟩,⟨by (with_reducible repeat first|apply bN_|apply bD_|apply bA_);refine blk_far ?_ NB248_255.out _;(with_reducible repeat first|apply bN_|apply bD_|apply bA_);refine blk_far ?_ NB248_255.out _;(with_reducible repeat first|apply bN_|apply bD_|apply bA_);refine blk_far ?_ NB248_255.out _;(with_reducible repeat first|apply bN_|apply bD_|apply bA_);exact BK248.out⟩,⟨by (with_reducible repeat first|apply bN_|apply bD_|apply bA_);refine blk_put (cs:=#[.int .i64 a4_2,.int .i64 a4_3,.slice none 0 0]) ?_ 2 _ rfl;(with_reducible repeat first|apply bN_|apply bD_|apply bA_);refine blk_put (cs:=#[.int .i64 a4_2,.int .i64 0,.slice none 0 0]) ?_ 1 _ rfl;(with_reducible repeat first|apply bN_|apply bD_|apply bA_);refine blk_put (cs:=#[.int .i64 0,.int .i64 0,.slice none 0 0]) ?_ 0 _ rfl;(with_reducible repeat first|apply bN_|apply bD_|apply bA_);exact BK255.out⟩,⟨by repeat first|(with_reducible first|exact HB.out|apply lA_|apply lN_|apply lD_|refine lS_ ?_ GE247.out|refine lS_ ?_ GE248.out|refine lS_ ?_ GE255.out)|exact HB.out⟩⟩
      case round =>
       clear H';obtain ⟨x14_2,x256002_2,u256002,rfl,HA,HK2,HO_256002,BK247,BK248,BK255,HB⟩:=hrel
       cases gk with
       | zero=>exact absurd HA.out (by simp [gr_Draw.l0])
       | succ k2 =>
        have H:=HA.out;clear HA;simp only [gr_Draw.l0] at H;by_cases c49:x14_2<(wrap64 (a4_1+a4_3))
        ·rw [if_pos c49] at H
         have c49b0:=decide_eq_true c49;clear c49;have H':=Aside0.mk H;clear H;have hnb50:=NB247_248.out;have hnc50:=NB248_247.out;have hnb51:=NB247_255.out;have hnc51:=NB255_247.out;have hcz52_0:wr.cell? ⟨gb247,0,none⟩=some (.int .i64 a4_0):=(blk_cell BK247.out 0).trans rfl;have hcz52_1:wr.cell? ⟨gb247,1,none⟩=some (.int .i64 a4_1):=(blk_cell BK247.out 1).trans rfl;have hcz52_2:wr.cell? ⟨gb247,2,none⟩=some (.int .i64 a4_2):=(blk_cell BK247.out 2).trans rfl;have hcz52_3:wr.cell? ⟨gb247,3,none⟩=some (.int .i64 a4_3):=(blk_cell BK247.out 3).trans rfl;have hfz52_0:=blk_frozen BK247.out 0;have hfz52_1:=blk_frozen BK247.out 1;have hfz52_2:=blk_frozen BK247.out 2;have hfz52_3:=blk_frozen BK247.out 3
         go_wp2
         go_loopg [15] k2 (fun kq v15 w'=>∃ (x15_3:Int) (x256002_3:List (S38)) (u256002:Value),v15 = .int .i64 x15_3∧Aside0 (gr_Draw.l1 kq a0 l1 a2 l3 x14_2 x15_3 a4_0 a4_1 a4_2 a4_3 a4_2 a4_3 x256002_3=some (r1,r2,r3,r4))∧Aside0 (kq≤k2)∧Aside0 (Kd.R k38 38 w' w.heap.size (fun _=>True) u256002 x256002_3)∧Aside0 (w'.heap[gb247]? = some (.cells #[.int .i64 a4_0,.int .i64 a4_1,.int .i64 a4_2,.int .i64 a4_3] 31 (0,0)))∧Aside0 (w'.heap[gb248]? = some (.cells #[.int .i64 0,.int .i64 0,(.slice none 0 0)] 34 (0,0)))∧Aside0 (w'.heap[gb255]? = some (.cells #[.int .i64 a4_2,.int .i64 a4_3,u256002] 34 (0,0)))∧Aside0 (Below w.heap.size w w'))
         case atStart=>exact ⟨(a4_0),(x256002_2),(u256002),(by first|rfl|(simp;done)|(simp [*];done)),H',⟨Nat.le_refl _⟩,⟨by (with_reducible repeat (first|apply Kd.R_alloc|apply Kd.R_drewN|apply Kd.R_drew));exact HO_256002.out⟩,⟨by (with_reducible repeat first|apply bN_|apply bD_|apply bA_);exact BK247.out⟩,⟨by (with_reducible repeat first|apply bN_|apply bD_|apply bA_);exact BK248.out⟩,⟨by (with_reducible repeat first|apply bN_|apply bD_|apply bA_);exact BK255.out⟩,⟨by repeat first|(with_reducible first|exact HB.out|apply lA_|apply lN_|apply lD_|refine lS_ ?_ GE247.out|refine lS_ ?_ GE248.out|refine lS_ ?_ GE255.out)|exact HB.out⟩⟩
         case round =>
          clear H';obtain ⟨x15_3,x256002_3,u256002,rfl,HA,HK3,HO_256002,BK247,BK248,BK255,HB⟩:=hrel
          cases gk with
          | zero=>exact absurd HA.out (by simp [gr_Draw.l1])
          | succ k3 =>
           have H:=HA.out;clear HA;simp only [gr_Draw.l1] at H;by_cases c53:x15_3<(wrap64 (a4_0+a4_2))
           ·rw [if_pos c53] at H
            have c53b0:=decide_eq_true c53;clear c53;replace H:=Option.bind_eq_some_iff.mp H;obtain ⟨t256,A540,H⟩:=H
            replace H:((gr_color.f k3 l3 t256).bind fun bt257=>(if x256002_3.length<4398046511104 then (gr_Draw.l1 k3 a0 l1 a2 l3 x14_2 (wrap64 (x15_3+1)) a4_0 a4_1 a4_2 a4_3 a4_2 a4_3 (x256002_3++[(⟨bt257.1,bt257.2.1,bt257.2.2.1,bt257.2.2.2⟩:S38)])) else (none)))=some (r1,r2,r3,r4):=H
            have A54:=Aside0.mk A540;clear A540;replace H:=Option.bind_eq_some_iff.mp H;obtain ⟨⟨t257,t258,t259,t260⟩,A550,H⟩:=H
            replace H:(if x256002_3.length<4398046511104 then (gr_Draw.l1 k3 a0 l1 a2 l3 x14_2 (wrap64 (x15_3+1)) a4_0 a4_1 a4_2 a4_3 a4_2 a4_3 (x256002_3++[(⟨t257,t258,t259,t260⟩:S38)])) else (none))=some (r1,r2,r3,r4):=H
            have A55:=Aside0.mk A550;clear A550;by_cases c56:x256002_3.length<4398046511104
            ·rw [if_pos c56] at H
             have LMc56:=Aside0.mk c56;clear c56;obtain ⟨y261,hy261⟩:∃ y_:List (S38),y_=(x256002_3++[(⟨t257,t258,t259,t260⟩:S38)]):=⟨_,rfl⟩
             replace H:(gr_Draw.l1 k3 a0 l1 a2 l3 x14_2 (wrap64 (x15_3+1)) a4_0 a4_1 a4_2 a4_3 a4_2 a4_3 y261)=some (r1,r2,r3,r4):=by first|(rw [hy261];with_reducible exact H)|(have H2_:=(Option.bind_some _ _).symm.trans H;rw [hy261];with_reducible exact H2_)|(have H2_:=(Option.bind_some _ _).symm.trans H;with_reducible exact H2_)|with_reducible exact H|(rw [hy261];exact H)|exact H
             have Ny261:=Aside0.mk hy261;clear hy261;have H':=Aside0.mk H;clear H;have hnb57:=NB247_248.out;have hnc57:=NB248_247.out;have hnb58:=NB247_255.out;have hnc58:=NB255_247.out;have hcz59_0:wr.cell? ⟨gb247,0,none⟩=some (.int .i64 a4_0):=(blk_cell BK247.out 0).trans rfl;have hcz59_1:wr.cell? ⟨gb247,1,none⟩=some (.int .i64 a4_1):=(blk_cell BK247.out 1).trans rfl;have hcz59_2:wr.cell? ⟨gb247,2,none⟩=some (.int .i64 a4_2):=(blk_cell BK247.out 2).trans rfl;have hcz59_3:wr.cell? ⟨gb247,3,none⟩=some (.int .i64 a4_3):=(blk_cell BK247.out 3).trans rfl;have hfz59_0:=blk_frozen BK247.out 0;have hfz59_1:=blk_frozen BK247.out 1;have hfz59_2:=blk_frozen BK247.out 2;have hfz59_3:=blk_frozen BK247.out 3
             try go_wp2
             have n0_:=Aside0.mk (Kd.R_drew HO_256002.out);have n1_:=Aside0.mk (blk_drew BK247.out);have n2_:=Aside0.mk (blk_drew BK248.out);have n3_:=Aside0.mk (blk_drew BK255.out);have n4_:=Aside0.mk (lD_ HB.out);clear HO_256002 BK247 BK248 BK255 HB;have HO_256002:=n0_;have BK247:=n1_;have BK248:=n2_;have BK255:=n3_;have HB:=n4_;clear n0_ n1_ n2_ n3_ n4_
             refine start_ (n:=14) (S:=fun w'=>w'.cell? ⟨gb255,0,none⟩=some (.int .i64 a4_2)∧w'.cell? ⟨gb255,1,none⟩=some (.int .i64 a4_3)∧w'.cell? ⟨gb255,2,none⟩=some (u256002)) (ds:=[13]) #[F_,F_,F_,F_,F_,F_,F_,F_,F_,F_,F_,F_,F_,F_] (by kernel_rfl) rfl rfl ⟨(blk_cell BK255.out 0).trans rfl,(blk_cell BK255.out 1).trans rfl,(blk_cell BK255.out 2).trans rfl⟩ (fun hHeld=>?_);refine with_tabW gr_Draw.tab17 gr_Draw.bits17 (fun HT_ HW_=>?_)
             generalize wr.drew=w60 at HO_256002 BK247 BK248 BK255 HB hHeld ⊢
             refine pure_ (i:=0) (N:=some 74) (v:=?_) (a':=?_) #[T_,F_,F_,F_,F_,F_,F_,F_,F_,F_,F_,F_,F_,F_] rfl rfl (any_of HT_.out (by kernel_rfl)) (fun _ _ _ h=>h) (Or.inl ⟨by rfl,?_⟩) ?_ ?_
             rotate_left
             ·intro w'
              go_simp
              with_reducible rfl
             rotate_left
             ·simp only [Act.put,tS_,tZ_,tC_,i64_w,i32_w]
              rfl
             refine pure_ (i:=2) (N:=some 76) (v:=?_) (a':=?_) #[T_,F_,T_,F_,F_,F_,F_,F_,F_,F_,F_,F_,F_,F_] rfl rfl (any_of HT_.out (by kernel_rfl)) (fun _ _ _ h=>h) (Or.inl ⟨by rfl,?_⟩) ?_ ?_
             rotate_left
             ·intro w'
              go_simp
              with_reducible rfl
             rotate_left
             ·simp only [Act.put,tS_,tZ_,tC_,i64_w,i32_w]
              rfl
             refine pure_ (i:=3) (N:=some 77) (v:=?_) (a':=?_) #[T_,F_,T_,T_,F_,F_,F_,F_,F_,F_,F_,F_,F_,F_] rfl rfl (any_of HT_.out (by kernel_rfl)) (fun _ _ _ h=>h) (Or.inl ⟨by rfl,?_⟩) ?_ ?_
             rotate_left
             ·intro w'
              go_simp
              with_reducible rfl
             rotate_left
             ·simp only [Act.put,tS_,tZ_,tC_,i64_w,i32_w]
              rfl
             refine pure_ (i:=4) (N:=some 78) (v:=?_) (a':=?_) #[T_,F_,T_,T_,T_,F_,F_,F_,F_,F_,F_,F_,F_,F_] rfl rfl (any_of HT_.out (by kernel_rfl)) (fun _ _ _ h=>h) (Or.inl ⟨by rfl,?_⟩) ?_ ?_
             rotate_left
             ·intro w'
              go_simp
              with_reducible rfl
             rotate_left
             ·simp only [Act.put,tS_,tZ_,tC_,i64_w,i32_w]
              rfl
             refine pure_ (i:=5) (N:=some 79) (v:=?_) (a':=?_) #[T_,F_,T_,T_,T_,T_,F_,F_,F_,F_,F_,F_,F_,F_] rfl rfl (any_of HT_.out (by kernel_rfl)) (fun _ _ _ h=>h) (Or.inl ⟨by rfl,?_⟩) ?_ ?_
             rotate_left
             ·intro w'
              go_simp
              with_reducible rfl
             rotate_left
             ·simp only [Act.put,tS_,tZ_,tC_,i64_w,i32_w]
              rfl
             refine pure_ (i:=6) (N:=some 80) (v:=?_) (a':=?_) #[T_,F_,T_,T_,T_,T_,T_,F_,F_,F_,F_,F_,F_,F_] rfl rfl (any_of HT_.out (by kernel_rfl)) (fun _ _ _ h=>h) (Or.inl ⟨by rfl,?_⟩) ?_ ?_
             rotate_left
             ·intro w'
              go_simp
              with_reducible rfl
             rotate_left
             ·simp only [Act.put,tS_,tZ_,tC_,i64_w,i32_w]
              rfl
             refine pure_ (i:=7) (N:=some 81) (v:=?_) (a':=?_) #[T_,F_,T_,T_,T_,T_,T_,T_,F_,F_,F_,F_,F_,F_] rfl rfl (any_of HT_.out (by kernel_rfl)) (fun _ _ _ h=>h) (Or.inl ⟨by rfl,?_⟩) ?_ ?_
             rotate_left
             ·intro w'
              go_simp
              with_reducible rfl
             rotate_left
             ·simp only [Act.put,tS_,tZ_,tC_,i64_w,i32_w]
              rfl
             refine take_ (i:=1) (N:=some 75) (v:=?_) (a':=?_) #[T_,T_,T_,T_,T_,T_,T_,T_,F_,F_,F_,F_,F_,F_] rfl rfl (take_ofW HT_.out HW_.out (by kernel_rfl)) (fun _ _ _ h=>h) (Or.inl ⟨by rfl,?_⟩) hHeld ?_ ?_
             rotate_left
             ·rintro w' ⟨s0,s1,s2⟩
              go_simp
              with_reducible rfl
             rotate_left
             ·simp only [Act.put,tS_,tZ_,tC_,i64_w,i32_w]
              rfl
             refine one_ (i:=8) (N:=some 82) #[T_,T_,T_,T_,T_,T_,T_,T_,T_,F_,F_,F_,F_,F_] rfl rfl (one_of HT_.out (by kernel_rfl)) (by decide) (fun K hK=>?_)
             refine goes_ Try.func26 (by kernel_rfl) rfl #[.int .i64 a0,.slice A1 l1.length c1,.int .i64 a2,.int .i64 x15_3,.int .i64 x14_2] (by rfl) rfl rfl (by (try simp only [mA_,mC_,mN_]);first|done|rfl|(simp only [dL_,kL_];rfl)) ?_
             with_reducible refine (gr_place.calls k3 a0 _ _ l1 a2 x15_3 x14_2 t256 _ ?side1 ?side2 A54.out).mono ?_
             (case side1=>repeat (first|exact (Kd.C_below HR1.out HB.out)|(with_reducible refine Kd.C_alloc ?_ _)|(with_reducible refine Kd.C_drewN ?_ _)|(with_reducible refine Kd.C_drew ?_)))
             (case side2=>exact HC1.out)
             rintro e w61 ⟨rfl,hb⟩;refine ⟨_,rfl,?_⟩
             have n0_:=Aside0.mk (Kd.R_below (by (with_reducible repeat (first|apply Kd.R_alloc|apply Kd.R_drewN|apply Kd.R_drew));exact HO_256002.out) hb)
             have n1_:=Aside0.mk (blk_below (by (with_reducible repeat first|apply bN_|apply bD_|apply bA_);exact BK247.out) hb)
             have n2_:=Aside0.mk (blk_below (by (with_reducible repeat first|apply bN_|apply bD_|apply bA_);exact BK248.out) hb)
             have n3_:=Aside0.mk (blk_below (by (with_reducible repeat first|apply bN_|apply bD_|apply bA_);exact BK255.out) hb)
             have n4_:=Aside0.mk (below_step (by repeat first|(with_reducible first|exact HB.out|apply lA_|apply lN_|apply lD_|refine lS_ ?_ GE247.out|refine lS_ ?_ GE248.out|refine lS_ ?_ GE255.out)|exact HB.out) hb)
             clear HO_256002 BK247 BK248 BK255 HB;have HO_256002:=n0_;have BK247:=n1_;have BK248:=n2_;have BK255:=n3_;have HB:=n4_;clear n0_ n1_ n2_ n3_ n4_
             (try clear hb)
             (try clear hb2)
             (try clear hk)
             (try clear hi)
             refine hK.out _ _ ⟨(blk_cell BK255.out 0).trans rfl,(blk_cell BK255.out 1).trans rfl,(blk_cell BK255.out 2).trans rfl⟩ (fun hHeld=>?_)
             clear hK K;refine norm_ (a':=?_) ?_ ?_;rotate_left
             ·show Act.put _ (some 82) _=_
              simp only [Act.put,tS_,tZ_,tC_,i64_w,i32_w];rfl
             refine one_ (i:=9) (N:=some 83) #[T_,T_,T_,T_,T_,T_,T_,T_,T_,T_,F_,F_,F_,F_] rfl rfl (one_of HT_.out (by kernel_rfl)) (by decide) (fun K hK=>?_)
             refine goes_ Try.func29 (by kernel_rfl) rfl #[.slice A3 l3.length c3,.int .i64 t256] (by rfl) rfl rfl (by (try simp only [mA_,mC_,mN_]);first|done|rfl|(simp only [dL_,kL_];rfl)) ?_
             with_reducible refine (gr_color.calls k3 _ _ l3 t256 t257 t258 t259 t260 _ ?side1 ?side2 A55.out).mono ?_
             (case side1=>repeat (first|exact (Kd.C_below HR3.out HB.out)|(with_reducible refine Kd.C_alloc ?_ _)|(with_reducible refine Kd.C_drewN ?_ _)|(with_reducible refine Kd.C_drew ?_)))
             (case side2=>exact HC3.out)
             rintro e w62 ⟨rfl,hb⟩;refine ⟨_,rfl,?_⟩
             have n0_:=Aside0.mk (Kd.R_below (by (with_reducible repeat (first|apply Kd.R_alloc|apply Kd.R_drewN|apply Kd.R_drew));exact HO_256002.out) hb)
             have n1_:=Aside0.mk (blk_below (by (with_reducible repeat first|apply bN_|apply bD_|apply bA_);exact BK247.out) hb)
             have n2_:=Aside0.mk (blk_below (by (with_reducible repeat first|apply bN_|apply bD_|apply bA_);exact BK248.out) hb)
             have n3_:=Aside0.mk (blk_below (by (with_reducible repeat first|apply bN_|apply bD_|apply bA_);exact BK255.out) hb)
             have n4_:=Aside0.mk (below_step (by repeat first|(with_reducible first|exact HB.out|apply lA_|apply lN_|apply lD_|refine lS_ ?_ GE247.out|refine lS_ ?_ GE248.out|refine lS_ ?_ GE255.out)|exact HB.out) hb)
             clear HO_256002 BK247 BK248 BK255 HB;have HO_256002:=n0_;have BK247:=n1_;have BK248:=n2_;have BK255:=n3_;have HB:=n4_;clear n0_ n1_ n2_ n3_ n4_
             (try clear hb)
             (try clear hb2)
             (try clear hk)
             (try clear hi)
             refine hK.out _ _ ⟨(blk_cell BK255.out 0).trans rfl,(blk_cell BK255.out 1).trans rfl,(blk_cell BK255.out 2).trans rfl⟩ (fun hHeld=>?_)
             clear hK K;refine norm_ (a':=?_) ?_ ?_;rotate_left
             ·show Act.put _ (some 83) _=_
              simp only [Act.put,tS_,tZ_,tC_,i64_w,i32_w];rfl
             refine one_ (i:=10) (N:=some 84) #[T_,T_,T_,T_,T_,T_,T_,T_,T_,T_,T_,F_,F_,F_] rfl rfl (one_of HT_.out (by kernel_rfl)) (by decide) (fun K hK=>?_)
             refine value_ (w1:=?_) (v:=?_) (by rfl) rfl ?_ ?_
             rotate_left 2
             ·go_simp
              constructor
              ·rfl
              rfl
             refine hK.out _ _ ⟨(blk_cell (blk_alloc BK255.out _) 0).trans rfl,(blk_cell (blk_alloc BK255.out _) 1).trans rfl,(blk_cell (blk_alloc BK255.out _) 2).trans rfl⟩ (fun hHeld=>?_)
             clear hK K;refine norm_ (a':=?_) ?_ ?_;rotate_left
             ·show Act.put _ (some 84) _=_
              simp only [Act.put,tS_,tZ_,tC_,i64_w,i32_w];rfl
             refine one_ (i:=11) (N:=some 85) #[T_,T_,T_,T_,T_,T_,T_,T_,T_,T_,T_,T_,F_,F_] rfl rfl (one_of HT_.out (by kernel_rfl)) (by decide) (fun K hK=>?_)
             refine Kd.R_append_step k38 (w0:=w) w.heap.size (by rfl) (.tmp 75) (.tmp 84) 32 38 (.agg #[(.int .i64 0),(.int .i64 0),(.int .i64 0),(.int .i64 0)]) 32 rfl Try.underlying32 info38 rfl (by decide) (by omega) u256002 x256002_3 (⟨t257,t258,t259,t260⟩:S38) [.int .i64 t257,.int .i64 t258,.int .i64 t259,.int .i64 t260] (fun _=>True) (fun _=>False) rfl rfl ?aP (fun _ hk=>hk.elim) ?aF ?aO ?aB ?aS ?aL ?_
             (case aP=>exact k38_mkM _ _ _ (⟨t257,t258,t259,t260⟩:S38))
             (case aB=>exact (by repeat first|(with_reducible first|exact HB.out|apply lA_|apply lN_|apply lD_|refine lS_ ?_ GE247.out|refine lS_ ?_ GE248.out|refine lS_ ?_ GE255.out)|exact HB.out))
             (case aF=>exact (fun _ _=>trivial))
             (case aO=>exact (by (with_reducible repeat (first|apply Kd.R_alloc|apply Kd.R_drewN|apply Kd.R_drew));exact HO_256002.out))
             (case aS=>exact (below_size (by repeat first|(with_reducible first|exact HB.out|apply lA_|apply lN_|apply lD_|refine lS_ ?_ GE247.out|refine lS_ ?_ GE248.out|refine lS_ ?_ GE255.out)|exact HB.out)))
             (case aL=>have:=LMc56.out;omega)
             intro v262 w63 ho hb hg hat;rw [← Ny261.out] at ho
             have n0_:=Aside0.mk (blk_grown (g:=gb247) (o:=.cells #[.int .i64 a4_0,.int .i64 a4_1,.int .i64 a4_2,.int .i64 a4_3] 31 (0,0)) (by (with_reducible repeat first|apply bN_|apply bD_|apply bA_);exact BK247.out) hg (Kd.R_ne HO_256002.out BK247.out (by decide)))
             have n1_:=Aside0.mk (blk_grown (g:=gb248) (o:=.cells #[.int .i64 0,.int .i64 0,.slice none 0 0] 34 (0,0)) (by (with_reducible repeat first|apply bN_|apply bD_|apply bA_);exact BK248.out) hg (Kd.R_ne HO_256002.out BK248.out (by decide)))
             have n2_:=Aside0.mk (blk_grown (g:=gb255) (o:=.cells #[.int .i64 a4_2,.int .i64 a4_3,u256002] 34 (0,0)) (by (with_reducible repeat first|apply bN_|apply bD_|apply bA_);exact BK255.out) hg (Kd.R_ne HO_256002.out BK255.out (by decide)))
             have n3_:=Aside0.mk (hb);have n4_:=Aside0.mk (ho);clear BK247 BK248 BK255 HB HO_256002;have BK247:=n0_;have BK248:=n1_;have BK255:=n2_;have HB:=n3_;have HO263:=n4_;clear n0_ n1_ n2_ n3_ n4_ ho hb hg hat;obtain ⟨Ao64,co64,eo64⟩:=Kd.R_slice HO263.out
             (first|subst eo64|(injection eo64 with f1_ f2_ f3_;have f4_:=f1_.symm;have f5_:=f3_.symm;clear f1_ f2_ f3_;subst f4_;subst f5_))
             refine hK.out _ _ ⟨(blk_cell BK255.out 0).trans rfl,(blk_cell BK255.out 1).trans rfl,(blk_cell BK255.out 2).trans rfl⟩ (fun hHeld=>?_)
             clear hK K;refine norm_ (a':=?_) ?_ ?_;rotate_left
             ·show Act.put _ (some 85) _=_
              simp only [Act.put,tS_,tZ_,tC_,i64_w,i32_w];rfl
             refine pure_ (i:=12) (N:=some 86) (v:=?_) (a':=?_) #[T_,T_,T_,T_,T_,T_,T_,T_,T_,T_,T_,T_,T_,F_] rfl rfl (any_of HT_.out (by kernel_rfl)) (fun _ _ _ h=>h) (Or.inl ⟨by rfl,?_⟩) ?_ ?_
             rotate_left
             ·intro w'
              go_simp
              with_reducible rfl
             rotate_left
             ·simp only [Act.put,tS_,tZ_,tC_,i64_w,i32_w]
              rfl
             refine last_ (i:=13) (N:=none) #[T_,T_,T_,T_,T_,T_,T_,T_,T_,T_,T_,T_,T_,T_] rfl rfl (one_of HT_.out (by kernel_rfl)) (by decide) (fun K hK=>?_)
             have hs65:w63.cell? ⟨gb255,2,none⟩=some (u256002):=(blk_cell BK255.out 2).trans rfl;have hfs65:=blk_frozen BK255.out 2;have hns65_0:=NB247_255.out;have hns65_1:=NB248_255.out;have hms65_0:=NB255_247.out;have hms65_1:=NB255_248.out
             refine skip_ (w1:=?_) (by rfl) rfl ?_ ?_
             rotate_left
             ·go_simp
              rfl
             refine hK.out _ _ ?_;clear hK K
             refine done_ (done_of HT_.out (by kernel_rfl)) ?_
             try go_wp2
             go_roundg k3
             case measure=>have:=HJ9.out;have:=HK2.out;have:=HK3.out;omega
             case rel=>exact ⟨(wrap64 (x15_3+1)),(y261),(.slice Ao64 y261.length co64),(by first|rfl|(simp;done)|(simp [*];done)),H',⟨by have:=HJ9.out;have:=HK2.out;have:=HK3.out;omega⟩,⟨by (with_reducible repeat (first|apply Kd.R_alloc|apply Kd.R_drewN|apply Kd.R_drew));exact Kd.R_mono (Kd.R_far (p:=⟨gb255,2,none⟩) (Kd.R_types HO263.out BK255.out (by decide)) (fun _ hk=>hk.2) (.slice Ao64 y261.length co64)) (fun _ hk=>trivial)⟩,⟨by (with_reducible repeat first|apply bN_|apply bD_|apply bA_);refine blk_far ?_ NB247_255.out _;(with_reducible repeat first|apply bN_|apply bD_|apply bA_);exact BK247.out⟩,⟨by (with_reducible repeat first|apply bN_|apply bD_|apply bA_);refine blk_far ?_ NB248_255.out _;(with_reducible repeat first|apply bN_|apply bD_|apply bA_);exact BK248.out⟩,⟨by (with_reducible repeat first|apply bN_|apply bD_|apply bA_);refine blk_put (cs:=#[.int .i64 a4_2,.int .i64 a4_3,u256002]) ?_ 2 _ rfl;(with_reducible repeat first|apply bN_|apply bD_|apply bA_);exact BK255.out⟩,⟨by repeat first|(with_reducible first|exact HB.out|apply lA_|apply lN_|apply lD_|refine lS_ ?_ GE247.out|refine lS_ ?_ GE248.out|refine lS_ ?_ GE255.out)|exact HB.out⟩⟩
            rw [if_neg c56] at H
            exact absurd H (by simp)
           rw [if_neg c53] at H;have c53b0:=decide_eq_false c53;clear c53;have H':=Aside0.mk H;clear H;have hnb66:=NB247_248.out;have hnc66:=NB248_247.out;have hnb67:=NB247_255.out;have hnc67:=NB255_247.out;have hcz68_0:wr.cell? ⟨gb247,0,none⟩=some (.int .i64 a4_0):=(blk_cell BK247.out 0).trans rfl;have hcz68_1:wr.cell? ⟨gb247,1,none⟩=some (.int .i64 a4_1):=(blk_cell BK247.out 1).trans rfl;have hcz68_2:wr.cell? ⟨gb247,2,none⟩=some (.int .i64 a4_2):=(blk_cell BK247.out 2).trans rfl;have hcz68_3:wr.cell? ⟨gb247,3,none⟩=some (.int .i64 a4_3):=(blk_cell BK247.out 3).trans rfl;have hfz68_0:=blk_frozen BK247.out 0;have hfz68_1:=blk_frozen BK247.out 1;have hfz68_2:=blk_frozen BK247.out 2;have hfz68_3:=blk_frozen BK247.out 3
           go_wp2
           go_roundg k3
           case measure=>have:=HJ9.out;have:=HK2.out;have:=HK3.out;omega
           case rel=>exact ⟨(wrap64 (x14_2+1)),(x256002_3),(u256002),(by first|rfl|(simp;done)|(simp [*];done)),H',⟨by have:=HJ9.out;have:=HK2.out;have:=HK3.out;omega⟩,⟨by (with_reducible repeat (first|apply Kd.R_alloc|apply Kd.R_drewN|apply Kd.R_drew));exact HO_256002.out⟩,⟨by (with_reducible repeat first|apply bN_|apply bD_|apply bA_);exact BK247.out⟩,⟨by (with_reducible repeat first|apply bN_|apply bD_|apply bA_);exact BK248.out⟩,⟨by (with_reducible repeat first|apply bN_|apply bD_|apply bA_);exact BK255.out⟩,⟨by repeat first|(with_reducible first|exact HB.out|apply lA_|apply lN_|apply lD_|refine lS_ ?_ GE247.out|refine lS_ ?_ GE248.out|refine lS_ ?_ GE255.out)|exact HB.out⟩⟩
        rw [if_neg c49] at H;have c49b0:=decide_eq_false c49;clear c49;simp only [Option.some.injEq,Prod.mk.injEq] at H;obtain ⟨rfl,rfl,rfl,rfl⟩:=H;have hnb69:=NB247_248.out;have hnc69:=NB248_247.out;have hnb70:=NB247_255.out;have hnc70:=NB255_247.out;have hcz71_0:wr.cell? ⟨gb247,0,none⟩=some (.int .i64 a4_0):=(blk_cell BK247.out 0).trans rfl;have hcz71_1:wr.cell? ⟨gb247,1,none⟩=some (.int .i64 a4_1):=(blk_cell BK247.out 1).trans rfl;have hcz71_2:wr.cell? ⟨gb247,2,none⟩=some (.int .i64 a4_2):=(blk_cell BK247.out 2).trans rfl;have hcz71_3:wr.cell? ⟨gb247,3,none⟩=some (.int .i64 a4_3):=(blk_cell BK247.out 3).trans rfl;have hfz71_0:=blk_frozen BK247.out 0;have hfz71_1:=blk_frozen BK247.out 1;have hfz71_2:=blk_frozen BK247.out 2;have hfz71_3:=blk_frozen BK247.out 3;have hnb72:=NB255_248.out;have hnc72:=NB248_255.out;have hcz73_0:wr.cell? ⟨gb255,0,none⟩=some (.int .i64 a4_2):=(blk_cell BK255.out 0).trans rfl;have hcz73_1:wr.cell? ⟨gb255,1,none⟩=some (.int .i64 a4_3):=(blk_cell BK255.out 1).trans rfl;have hcz73_2:wr.cell? ⟨gb255,2,none⟩=some (u256002):=(blk_cell BK255.out 2).trans rfl;have hfz73_0:=blk_frozen BK255.out 0;have hfz73_1:=blk_frozen BK255.out 1;have hfz73_2:=blk_frozen BK255.out 2;have hcz74_0:wr.cell? ⟨gb248,0,none⟩=some (.int .i64 0):=(blk_cell BK248.out 0).trans rfl;have hcz74_1:wr.cell? ⟨gb248,1,none⟩=some (.int .i64 0):=(blk_cell BK248.out 1).trans rfl;have hcz74_2:wr.cell? ⟨gb248,2,none⟩=some (.slice none 0 0):=(blk_cell BK248.out 2).trans rfl;have hfz74_0:=blk_frozen BK248.out 0;have hfz74_1:=blk_frozen BK248.out 1;have hfz74_2:=blk_frozen BK248.out 2;obtain ⟨Ao75,co75,eo75⟩:=Kd.R_slice HO_256002.out;subst eo75
        go_wp2
        refine bodyPost_ret (results_ct rfl _ _ gb248 34 #[.int .i64 a4_2,.int .i64 a4_3,.slice Ao75 x256002_2.length co75] (0,0) _ rfl (by (with_reducible repeat first|apply bN_|apply bD_|apply bA_);refine blk_put (cs:=#[.int .i64 a4_2,.int .i64 a4_3,.slice none 0 0]) ?_ 2 _ rfl;(with_reducible repeat first|apply bN_|apply bD_|apply bA_);refine blk_put (cs:=#[.int .i64 a4_2,.int .i64 0,.slice none 0 0]) ?_ 1 _ rfl;(with_reducible repeat first|apply bN_|apply bD_|apply bA_);refine blk_put (cs:=#[.int .i64 0,.int .i64 0,.slice none 0 0]) ?_ 0 _ rfl;(with_reducible repeat first|apply bN_|apply bD_|apply bA_);exact BK248.out) Try.underlying34 rfl (by kernel_rfl)) rfl ?_
        exact ⟨_,by first|rfl|(simp [errW_none,errW_some] <;> rfl)|(simp only [← hji31];first|rfl|(simp [errW_none,errW_some] <;> rfl))|(simp [*,errW_none,errW_some] <;> rfl),by (with_reducible repeat (first|apply Kd.R_alloc|apply Kd.R_drewN|apply Kd.R_drew));exact Kd.R_mono (Kd.R_far (p:=⟨gb248,2,none⟩) (Kd.R_far (p:=⟨gb248,1,none⟩) (Kd.R_far (p:=⟨gb248,0,none⟩) (Kd.R_types HO_256002.out BK248.out (by decide)) (fun _ hk=>hk.2) (.int .i64 a4_2)) (fun _ hk=>hk.2) (.int .i64 a4_3)) (fun _ hk=>hk.2) (.slice Ao75 x256002_2.length co75)) (fun _ hk=>trivial),by repeat first|(with_reducible first|exact HB.out|apply lA_|apply lN_|apply lD_|refine lS_ ?_ GE247.out|refine lS_ ?_ GE248.out|refine lS_ ?_ GE255.out)|exact HB.out⟩
     rw [if_neg c33] at H
     exact absurd H (by simp)
    rw [if_neg c32] at H
    exact absurd H (by simp)
  replace c9:=Bool.eq_false_iff.mpr c9;subst c9
  have H1:(some (0,0,([]:List (S38)),2))=some (r1,r2,r3,r4):=by rw [if_neg (show ¬ (false=true) by decide)] at H;exact H
  clear H;have H:=H1;clear H1;simp only [Option.some.injEq,Prod.mk.injEq] at H;obtain ⟨rfl,rfl,rfl,rfl⟩:=H
  go_enter Try.func15,Try.ntmps15
  go_wp2_with (first|((with_reducible refine gate_dst (N:=9) rfl ?_);refine box_event ?hg (N:=9) ?hd (cs:=#[.int .i64 a4_0,.int .i64 a4_1,.int .i64 a4_2,.int .i64 a4_3]) (t:=31) ?hr ?_;(case hd=>rfl);(case hg=>rfl);(case hr=>first|(go_simp;done)|(go_simp;rfl));intro gb247 hg w76 hbox hb;have n0_:=Aside0.mk (below_step (by repeat first|(with_reducible first|exact HB.out|apply lA_|apply lN_|apply lD_)|exact HB.out) hb);have n1_:=Aside0.mk (hbox);have n2_:=Aside0.mk ((by rw [hg];exact (below_size (by repeat first|(with_reducible first|exact HB.out|apply lA_|apply lN_|apply lD_)|exact HB.out)):w.heap.size≤gb247));have n3_:=Aside0.mk ((by rw [hg];exact (below_size (by repeat first|(with_reducible first|exact HB.out|apply lA_|apply lN_|apply lD_)|exact HB.out)):w.heap.size≤gb247));clear HB;have HB:=n0_;have BK247:=n1_;have GW247:=n2_;have GE247:=n3_;clear n0_ n1_ n2_ n3_;clear hb hbox hg)|((with_reducible refine gate_dst (N:=10) rfl ?_);refine box_event ?hg (N:=10) ?hd (cs:=#[.int .i64 0,.int .i64 0,.slice none 0 0]) (t:=34) ?hr ?_;(case hd=>rfl);(case hg=>rfl);(case hr=>first|(go_simp;done)|(go_simp;rfl));intro gb248 hg w77 hbox hb;have n0_:=Aside0.mk (blk_below (by (with_reducible repeat first|apply bN_|apply bD_|apply bA_);exact BK247.out) hb);have n1_:=Aside0.mk (below_step (by repeat first|(with_reducible first|exact HB.out|apply lA_|apply lN_|apply lD_|refine lS_ ?_ GE247.out)|exact HB.out) hb);have n2_:=Aside0.mk (hbox);have n3_:=Aside0.mk ((by rw [hg];exact (below_size (by repeat first|(with_reducible first|exact HB.out|apply lA_|apply lN_|apply lD_|refine lS_ ?_ GE247.out)|exact HB.out)):w.heap.size≤gb248));have n4_:=Aside0.mk ((by rw [hg];exact (below_size (by repeat first|(with_reducible first|exact HB.out|apply lA_|apply lN_|apply lD_|refine lS_ ?_ GE247.out)|exact HB.out)):w.heap.size≤gb248));have n5_:=Aside0.mk ((by rw [hg];exact Nat.ne_of_lt (blk_lt (g:=gb247) (o:=.cells #[.int .i64 a4_0,.int .i64 a4_1,.int .i64 a4_2,.int .i64 a4_3] 31 (0,0)) (by (with_reducible repeat first|apply bN_|apply bD_|apply bA_);exact BK247.out)):gb247 ≠ gb248));have n6_:=Aside0.mk ((by rw [hg];exact Nat.ne_of_gt (blk_lt (g:=gb247) (o:=.cells #[.int .i64 a4_0,.int .i64 a4_1,.int .i64 a4_2,.int .i64 a4_3] 31 (0,0)) (by (with_reducible repeat first|apply bN_|apply bD_|apply bA_);exact BK247.out)):gb248 ≠ gb247));clear BK247;clear HB;have BK247:=n0_;have HB:=n1_;have BK248:=n2_;have GW248:=n3_;have GE248:=n4_;have NB247_248:=n5_;have NB248_247:=n6_;clear n0_ n1_ n2_ n3_ n4_ n5_ n6_;clear hb hbox hg)|((with_reducible refine gate_callee (f:=16) rfl ?_);refine goesL_ (some 20) rfl rfl Try.func16 (by kernel_rfl) rfl #[.int .i64 a0,.slice A1 l1.length c1,.int .i64 a2,.slice A3 l3.length c3] rfl (by (try simp only [mA_,mC_,mN_]);first|done|rfl|(simp only [dL_,kL_];rfl)) ?_;(with_reducible refine (gr_Check.calls k a0 _ _ l1 a2 _ _ l3 t249 _ ?side1 ?side2 ?side3 ?side4 A6.out).mono ?_);(case side1=>repeat (first|exact (Kd.C_below HR1.out HB.out)|(with_reducible refine Kd.C_alloc ?_ _)|(with_reducible refine Kd.C_drewN ?_ _)|(with_reducible refine Kd.C_drew ?_)));(case side2=>exact HC1.out);(case side3=>repeat (first|exact (Kd.C_below HR3.out HB.out)|(with_reducible refine Kd.C_alloc ?_ _)|(with_reducible refine Kd.C_drewN ?_ _)|(with_reducible refine Kd.C_drew ?_)));(case side4=>exact HC3.out);rintro e w78 ⟨rfl,hb⟩;refine ⟨_,rfl,?_⟩;have n0_:=Aside0.mk (blk_below (by (with_reducible repeat first|apply bN_|apply bD_|apply bA_);exact BK247.out) hb);have n1_:=Aside0.mk (blk_below (by (with_reducible repeat first|apply bN_|apply bD_|apply bA_);exact BK248.out) hb);have n2_:=Aside0.mk (below_step (by repeat first|(with_reducible first|exact HB.out|apply lA_|apply lN_|apply lD_|refine lS_ ?_ GE247.out|refine lS_ ?_ GE248.out)|exact HB.out) hb);clear BK247;clear BK248;clear HB;have BK247:=n0_;have BK248:=n1_;have HB:=n2_;clear n0_ n1_ n2_;(try clear hb);(try clear hb2);(try clear hk);(try clear hi);have hnb79:=NB247_248.out;have hnc79:=NB248_247.out;have hcz80_0:w78.cell? ⟨gb247,0,none⟩=some (.int .i64 a4_0):=(blk_cell BK247.out 0).trans rfl;have hcz80_1:w78.cell? ⟨gb247,1,none⟩=some (.int .i64 a4_1):=(blk_cell BK247.out 1).trans rfl;have hcz80_2:w78.cell? ⟨gb247,2,none⟩=some (.int .i64 a4_2):=(blk_cell BK247.out 2).trans rfl;have hcz80_3:w78.cell? ⟨gb247,3,none⟩=some (.int .i64 a4_3):=(blk_cell BK247.out 3).trans rfl;have hfz80_0:=blk_frozen BK247.out 0;have hfz80_1:=blk_frozen BK247.out 1;have hfz80_2:=blk_frozen BK247.out 2;have hfz80_3:=blk_frozen BK247.out 3)|((with_reducible refine gate_callee (f:=27) rfl ?_);refine goesL_ (some 26) rfl rfl Try.func27 (by kernel_rfl) rfl #[.agg #[.int .i64 a4_0,.int .i64 a4_1,.int .i64 a4_2,.int .i64 a4_3]] rfl (by (try simp only [mA_,mC_,mN_]);first|done|rfl|(simp only [dL_,kL_];rfl)) ?_;(with_reducible refine (rect_Valid.calls a4_0 a4_1 a4_2 a4_3 false _ A8.out).mono ?_);rintro e w81 ⟨rfl,hb⟩;refine ⟨_,rfl,?_⟩;have n0_:=Aside0.mk (blk_below (by (with_reducible repeat first|apply bN_|apply bD_|apply bA_);exact BK247.out) hb);have n1_:=Aside0.mk (blk_below (by (with_reducible repeat first|apply bN_|apply bD_|apply bA_);exact BK248.out) hb);have n2_:=Aside0.mk (below_step (by repeat first|(with_reducible first|exact HB.out|apply lA_|apply lN_|apply lD_|refine lS_ ?_ GE247.out|refine lS_ ?_ GE248.out)|exact HB.out) hb);clear BK247;clear BK248;clear HB;have BK247:=n0_;have BK248:=n1_;have HB:=n2_;clear n0_ n1_ n2_;(try clear hb);(try clear hb2);(try clear hk);(try clear hi);have hcz82_0:w81.cell? ⟨gb248,0,none⟩=some (.int .i64 0):=(blk_cell BK248.out 0).trans rfl;have hcz82_1:w81.cell? ⟨gb248,1,none⟩=some (.int .i64 0):=(blk_cell BK248.out 1).trans rfl;have hcz82_2:w81.cell? ⟨gb248,2,none⟩=some (.slice none 0 0):=(blk_cell BK248.out 2).trans rfl;have hfz82_0:=blk_frozen BK248.out 0;have hfz82_1:=blk_frozen BK248.out 1;have hfz82_2:=blk_frozen BK248.out 2))
  refine bodyPost_ret (results_ct rfl _ _ gb248 34 #[.int .i64 0,.int .i64 0,.slice none 0 0] (0,0) _ rfl (by (with_reducible repeat first|apply bN_|apply bD_|apply bA_);refine blk_put (cs:=#[.int .i64 0,.int .i64 0,.slice none 0 0]) ?_ 2 _ rfl;(with_reducible repeat first|apply bN_|apply bD_|apply bA_);refine blk_put (cs:=#[.int .i64 0,.int .i64 0,.slice none 0 0]) ?_ 1 _ rfl;(with_reducible repeat first|apply bN_|apply bD_|apply bA_);refine blk_put (cs:=#[.int .i64 0,.int .i64 0,.slice none 0 0]) ?_ 0 _ rfl;(with_reducible repeat first|apply bN_|apply bD_|apply bA_);exact BK248.out) Try.underlying34 rfl (by kernel_rfl)) rfl ?_
  exact ⟨_,by first|rfl|(simp [errW_none,errW_some] <;> rfl)|(simp [*,errW_none,errW_some] <;> rfl),by first|exact Kd.R_nil _ _ _ _ _|exact Kd.N_nil _ _ _ _ _|exact Kd.V_nil _ _ _ _ _|exact Kd.Q_nil _ _ _ _ _|exact Kd.S_nil _ _ _ _ _,by repeat first|(with_reducible first|exact HB.out|apply lA_|apply lN_|apply lD_|refine lS_ ?_ GE247.out|refine lS_ ?_ GE248.out)|exact HB.out⟩
 rw [if_neg c7] at H;have c7b0:(t249==0)=false:=beq_eq_false_iff_ne.mpr c7;have c7b1:(t249 != 0)=true:=bne_iff_ne.mpr c7;simp only [Option.some.injEq,Prod.mk.injEq] at H;obtain ⟨rfl,rfl,rfl,rfl⟩:=H
 go_enter Try.func15,Try.ntmps15
 go_wp2_with (first|((with_reducible refine gate_dst (N:=9) rfl ?_);refine box_event ?hg (N:=9) ?hd (cs:=#[.int .i64 a4_0,.int .i64 a4_1,.int .i64 a4_2,.int .i64 a4_3]) (t:=31) ?hr ?_;(case hd=>rfl);(case hg=>rfl);(case hr=>first|(go_simp;done)|(go_simp;rfl));intro gb247 hg w83 hbox hb;have n0_:=Aside0.mk (below_step (by repeat first|(with_reducible first|exact HB.out|apply lA_|apply lN_|apply lD_)|exact HB.out) hb);have n1_:=Aside0.mk (hbox);have n2_:=Aside0.mk ((by rw [hg];exact (below_size (by repeat first|(with_reducible first|exact HB.out|apply lA_|apply lN_|apply lD_)|exact HB.out)):w.heap.size≤gb247));have n3_:=Aside0.mk ((by rw [hg];exact (below_size (by repeat first|(with_reducible first|exact HB.out|apply lA_|apply lN_|apply lD_)|exact HB.out)):w.heap.size≤gb247));clear HB;have HB:=n0_;have BK247:=n1_;have GW247:=n2_;have GE247:=n3_;clear n0_ n1_ n2_ n3_;clear hb hbox hg)|((with_reducible refine gate_dst (N:=10) rfl ?_);refine box_event ?hg (N:=10) ?hd (cs:=#[.int .i64 0,.int .i64 0,.slice none 0 0]) (t:=34) ?hr ?_;(case hd=>rfl);(case hg=>rfl);(case hr=>first|(go_simp;done)|(go_simp;rfl));intro gb248 hg w84 hbox hb;have n0_:=Aside0.mk (blk_below (by (with_reducible repeat first|apply bN_|apply bD_|apply bA_);exact BK247.out) hb);have n1_:=Aside0.mk (below_step (by repeat first|(with_reducible first|exact HB.out|apply lA_|apply lN_|apply lD_|refine lS_ ?_ GE247.out)|exact HB.out) hb);have n2_:=Aside0.mk (hbox);have n3_:=Aside0.mk ((by rw [hg];exact (below_size (by repeat first|(with_reducible first|exact HB.out|apply lA_|apply lN_|apply lD_|refine lS_ ?_ GE247.out)|exact HB.out)):w.heap.size≤gb248));have n4_:=Aside0.mk ((by rw [hg];exact (below_size (by repeat first|(with_reducible first|exact HB.out|apply lA_|apply lN_|apply lD_|refine lS_ ?_ GE247.out)|exact HB.out)):w.heap.size≤gb248));have n5_:=Aside0.mk ((by rw [hg];exact Nat.ne_of_lt (blk_lt (g:=gb247) (o:=.cells #[.int .i64 a4_0,.int .i64 a4_1,.int .i64 a4_2,.int .i64 a4_3] 31 (0,0)) (by (with_reducible repeat first|apply bN_|apply bD_|apply bA_);exact BK247.out)):gb247 ≠ gb248));have n6_:=Aside0.mk ((by rw [hg];exact Nat.ne_of_gt (blk_lt (g:=gb247) (o:=.cells #[.int .i64 a4_0,.int .i64 a4_1,.int .i64 a4_2,.int .i64 a4_3] 31 (0,0)) (by (with_reducible repeat first|apply bN_|apply bD_|apply bA_);exact BK247.out)):gb248 ≠ gb247));clear BK247;clear HB;have BK247:=n0_;have HB:=n1_;have BK248:=n2_;have GW248:=n3_;have GE248:=n4_;have NB247_248:=n5_;have NB248_247:=n6_;clear n0_ n1_ n2_ n3_ n4_ n5_ n6_;clear hb hbox hg)|((with_reducible refine gate_callee (f:=16) rfl ?_);refine goesL_ (some 20) rfl rfl Try.func16 (by kernel_rfl) rfl #[.int .i64 a0,.slice A1 l1.length c1,.int .i64 a2,.slice A3 l3.length c3] rfl (by (try simp only [mA_,mC_,mN_]);first|done|rfl|(simp only [dL_,kL_];rfl)) ?_;(with_reducible refine (gr_Check.calls k a0 _ _ l1 a2 _ _ l3 t249 _ ?side1 ?side2 ?side3 ?side4 A6.out).mono ?_);(case side1=>repeat (first|exact (Kd.C_below HR1.out HB.out)|(with_reducible refine Kd.C_alloc ?_ _)|(with_reducible refine Kd.C_drewN ?_ _)|(with_reducible refine Kd.C_drew ?_)));(case side2=>exact HC1.out);(case side3=>repeat (first|exact (Kd.C_below HR3.out HB.out)|(with_reducible refine Kd.C_alloc ?_ _)|(with_reducible refine Kd.C_drewN ?_ _)|(with_reducible refine Kd.C_drew ?_)));(case side4=>exact HC3.out);rintro e w85 ⟨rfl,hb⟩;refine ⟨_,rfl,?_⟩;have n0_:=Aside0.mk (blk_below (by (with_reducible repeat first|apply bN_|apply bD_|apply bA_);exact BK247.out) hb);have n1_:=Aside0.mk (blk_below (by (with_reducible repeat first|apply bN_|apply bD_|apply bA_);exact BK248.out) hb);have n2_:=Aside0.mk (below_step (by repeat first|(with_reducible first|exact HB.out|apply lA_|apply lN_|apply lD_|refine lS_ ?_ GE247.out|refine lS_ ?_ GE248.out)|exact HB.out) hb);clear BK247;clear BK248;clear HB;have BK247:=n0_;have BK248:=n1_;have HB:=n2_;clear n0_ n1_ n2_;(try clear hb);(try clear hb2);(try clear hk);(try clear hi);have hnb86:=NB248_247.out;have hnc86:=NB247_248.out;have hcz87_0:w85.cell? ⟨gb248,0,none⟩=some (.int .i64 0):=(blk_cell BK248.out 0).trans rfl;have hcz87_1:w85.cell? ⟨gb248,1,none⟩=some (.int .i64 0):=(blk_cell BK248.out 1).trans rfl;have hcz87_2:w85.cell? ⟨gb248,2,none⟩=some (.slice none 0 0):=(blk_cell BK248.out 2).trans rfl;have hfz87_0:=blk_frozen BK248.out 0;have hfz87_1:=blk_frozen BK248.out 1;have hfz87_2:=blk_frozen BK248.out 2))
 refine bodyPost_ret (results_ct rfl _ _ gb248 34 #[.int .i64 0,.int .i64 0,.slice none 0 0] (0,0) _ rfl (by (with_reducible repeat first|apply bN_|apply bD_|apply bA_);refine blk_put (cs:=#[.int .i64 0,.int .i64 0,.slice none 0 0]) ?_ 2 _ rfl;(with_reducible repeat first|apply bN_|apply bD_|apply bA_);refine blk_put (cs:=#[.int .i64 0,.int .i64 0,.slice none 0 0]) ?_ 1 _ rfl;(with_reducible repeat first|apply bN_|apply bD_|apply bA_);refine blk_put (cs:=#[.int .i64 0,.int .i64 0,.slice none 0 0]) ?_ 0 _ rfl;(with_reducible repeat first|apply bN_|apply bD_|apply bA_);exact BK248.out) Try.underlying34 rfl (by kernel_rfl)) rfl ?_
 exact ⟨_,by first|rfl|(simp [errW_none,errW_some] <;> rfl)|(simp [*,errW_none,errW_some] <;> rfl),by first|exact Kd.R_nil _ _ _ _ _|exact Kd.N_nil _ _ _ _ _|exact Kd.V_nil _ _ _ _ _|exact Kd.Q_nil _ _ _ _ _|exact Kd.S_nil _ _ _ _ _,by repeat first|(with_reducible first|exact HB.out|apply lA_|apply lN_|apply lD_|refine lS_ ?_ GE247.out|refine lS_ ?_ GE248.out)|exact HB.out⟩

end Go.Proofs.Ytmlcobnidfkhfaa.Q
