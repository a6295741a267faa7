/- Each Go function of the law as a Lean function, with the proof that its call comes to just that, for every input; written by hp.py, a program of this session over the kit own print of the translation. -/
import Derived.Test.YtmlcobnidfkhfaaQ0
import Derived.Test.YtmlcobnidfkhfaaQ2
import Derived.Test.YtmlcobnidfkhfaaQ15
import Derived.Test.YtmlcobnidfkhfaaQ16
namespace Go.Proofs.Ytmlcobnidfkhfaa.Q
open Go.RowKit Go.Proofs.YtmlcobnidfkhfaaW.PrintWords Go.Proofs.YtmlcobnidfkhfaaW.PrintLast Go.Proofs.YtmlcobnidfkhfaaW.PrintMore
attribute [local go_sem] max2_int min2_int max_two min_two max_three min_three max_four min_four   -- for this text's walks alone
set_option linter.unusedVariables false
set_option linter.unusedSimpArgs false
open Go.Proofs.Ytmlcobnidfkhfaa.Clo Go.Proofs.Ytmlcobnidfkhfaa.Mk0

/-! ### r18_Color: function 18 -/
mutual
def r18_Color.l0:Nat→List (S47)→Int→Int→Int→Int→Int→Int→Int→Option (Int × Int × Int × Int)
 | 0,_,_,_,_,_,_,_,_=>none
 | k+1,x0,x1,x18,x19,x391000,x391001,x391002,x391003=>if x19<x18 then (if 0≤x19 then (if x19<(x0.length:Int) then (if x1≥((rd_T47 x0 x19).f0) then (r18_Color.j1 k x0 x1 x19 x18 x19 ((rd_T47 x0 x19).f1.f0) ((rd_T47 x0 x19).f1.f1) ((rd_T47 x0 x19).f1.f2) ((rd_T47 x0 x19).f1.f3)) else (r18_Color.j1 k x0 x1 x19 x18 x19 x391000 x391001 x391002 x391003)) else (none)) else (none)) else (if x391003=0 then (some (0,0,0,0)) else (some (x391000,x391001,x391002,x391003)))
def r18_Color.j1:Nat→List (S47)→Int→Int→Int→Int→Int→Int→Int→Int→Option (Int × Int × Int × Int)
 | 0,_,_,_,_,_,_,_,_,_=>none
 | k+1,x0,x1,x6,x18,x19,x391000,x391001,x391002,x391003=>if x6>0 then (if 0≤(wrap64 (x6-1)) then (if (wrap64 (x6-1))<(x0.length:Int) then (if x1>((rd_T47 x0 (wrap64 (x6-1))).f0) then (if 0≤x6 then (if x6<(x0.length:Int) then (r18_Color.j2 k x0 x1 x6 x18 x19 (decide (x1<((rd_T47 x0 x6).f0))) x391000 x391001 x391002 x391003) else (none)) else (none)) else (r18_Color.j2 k x0 x1 x6 x18 x19 false x391000 x391001 x391002 x391003)) else (none)) else (none)) else (r18_Color.j2 k x0 x1 x6 x18 x19 false x391000 x391001 x391002 x391003)
def r18_Color.j2:Nat→List (S47)→Int→Int→Int→Int→Bool→Int→Int→Int→Int→Option (Int × Int × Int × Int)
 | 0,_,_,_,_,_,_,_,_,_,_=>none
 | k+1,x0,x1,x6,x18,x19,x54,x391000,x391001,x391002,x391003=>if x54=true then (if 0≤(wrap64 (x6-1)) then (if (wrap64 (x6-1))<(x0.length:Int) then (if 0≤x6 then (if x6<(x0.length:Int) then ((r01_Div.f k (wrap64 (65535*(wrap64 (x1-((rd_T47 x0 (wrap64 (x6-1))).f0))))) (wrap64 (((rd_T47 x0 x6).f0)-((rd_T47 x0 (wrap64 (x6-1))).f0)))).bind fun t400=>((r06_Mix.f k ((rd_T47 x0 (wrap64 (x6-1))).f1.f0) ((rd_T47 x0 (wrap64 (x6-1))).f1.f1) ((rd_T47 x0 (wrap64 (x6-1))).f1.f2) ((rd_T47 x0 (wrap64 (x6-1))).f1.f3) ((rd_T47 x0 x6).f1.f0) ((rd_T47 x0 x6).f1.f1) ((rd_T47 x0 x6).f1.f2) ((rd_T47 x0 x6).f1.f3) t400).bind fun bt401=>(r18_Color.l0 k x0 x1 x18 (wrap64 (x19+1)) bt401.1 bt401.2.1 bt401.2.2.1 bt401.2.2.2))) else (none)) else (none)) else (none)) else (none)) else (r18_Color.l0 k x0 x1 x18 (wrap64 (x19+1)) x391000 x391001 x391002 x391003)
end
def r18_Color.f (k:Nat) (l0:List (S47)) (a1:Int):Option (Int × Int × Int × Int):=(r18_Stops.f k l0).bind fun t387=>(if t387=0 then ((r06_U.f a1).bind fun t388=>(if 0<(l0.length:Int) then (r18_Color.l0 k l0 t388 (l0.length:Int) 0 ((rd_T47 l0 0).f1.f0) ((rd_T47 l0 0).f1.f1) ((rd_T47 l0 0).f1.f2) ((rd_T47 l0 0).f1.f3)) else (none))) else (some (0,0,0,0)))
theorem r18_Color.mono_l:∀ k,(∀ y0 y1 y2 y3 y4 y5 y6 y7,LeO (r18_Color.l0 k y0 y1 y2 y3 y4 y5 y6 y7) (r18_Color.l0 (k+1) y0 y1 y2 y3 y4 y5 y6 y7))∧(∀ y0 y1 y2 y3 y4 y5 y6 y7 y8,LeO (r18_Color.j1 k y0 y1 y2 y3 y4 y5 y6 y7 y8) (r18_Color.j1 (k+1) y0 y1 y2 y3 y4 y5 y6 y7 y8))∧(∀ y0 y1 y2 y3 y4 y5 y6 y7 y8 y9,LeO (r18_Color.j2 k y0 y1 y2 y3 y4 y5 y6 y7 y8 y9) (r18_Color.j2 (k+1) y0 y1 y2 y3 y4 y5 y6 y7 y8 y9))
 | 0=>⟨fun _ _ _ _ _ _ _ _ r h=>by simp [r18_Color.l0] at h,fun _ _ _ _ _ _ _ _ _ r h=>by simp [r18_Color.j1] at h,fun _ _ _ _ _ _ _ _ _ _ r h=>by simp [r18_Color.j2] at h⟩
 | k+1=>by
  obtain ⟨ih0,ih1,ih2⟩:=r18_Color.mono_l k;refine ⟨?_,?_,?_⟩;intro y0 y1 y2 y3 y4 y5 y6 y7;unfold r18_Color.l0;rotate_left;intro y0 y1 y2 y3 y4 y5 y6 y7 y8;unfold r18_Color.j1;rotate_left;intro y0 y1 y2 y3 y4 y5 y6 y7 y8 y9;unfold r18_Color.j2;rotate_left
  all_goals repeat' first
   | (with_reducible exact ih0 _ _ _ _ _ _ _ _)
   | (with_reducible exact ih1 _ _ _ _ _ _ _ _ _)
   | (with_reducible exact ih2 _ _ _ _ _ _ _ _ _ _)
   | (with_reducible exact r01_Div.mono _ _ _)
   | (with_reducible exact r06_Mix.mono _ _ _ _ _ _ _ _ _ _)
   | (with_reducible exact r18_Stops.mono _ _)
   | (with_reducible exact LeO.refl _)
   | (with_reducible exact LeO.none _)
   | (with_reducible refine LeO.ite ?_ ?_)
   | (with_reducible refine LeO.bind ?_ (fun _=>?_))
theorem r18_Color.mono:∀ a0 a1 k,LeO (r18_Color.f k a0 a1) (r18_Color.f (k+1) a0 a1):=by
 intro a0 a1 k;obtain ⟨ih0,ih1,ih2⟩:=r18_Color.mono_l k
 unfold r18_Color.f
 repeat' first
   | (with_reducible exact ih0 _ _ _ _ _ _ _ _)
   | (with_reducible exact ih1 _ _ _ _ _ _ _ _ _)
   | (with_reducible exact ih2 _ _ _ _ _ _ _ _ _ _)
   | (with_reducible exact r01_Div.mono _ _ _)
   | (with_reducible exact r06_Mix.mono _ _ _ _ _ _ _ _ _ _)
   | (with_reducible exact r18_Stops.mono _ _)
   | (with_reducible exact LeO.refl _)
   | (with_reducible exact LeO.none _)
   | (with_reducible refine LeO.ite ?_ ?_)
   | (with_reducible refine LeO.bind ?_ (fun _=>?_))
def r18_Color.T11:Bool × List (List Nat × List Nat):=(true,[([],[]),([],[]),([1],[1]),([0,2],[0,2]),([3],[3]),([4],[4]),([],[]),([],[]),([6,7],[6,7]),([8],[8]),([9],[9]),([],[]),([],[]),([],[]),([13],[13]),([12,14],[12,14]),([15],[15]),([16],[16]),([11,17],[11,17]),([18],[18]),([],[]),([],[]),([20,21],[20,21]),([22],[22]),([23],[23]),([],[]),([],[]),([26],[26]),([25,27],[25,27]),([28],[28]),([29],[29]),([24,30],[24,30]),([19,31],[19,31]),([5,10,32,32],[5,10,32]),([33,33,0,1,2,3,4,5,6,7,8,9,10,11,12,13,14,15,16,17,18,19,20,21,22,23,24,25,26,27,28,29,30,31,32,33],[33])])
def r18_Color.B11:List Nat:=[0,0,2,7,15,31,0,0,192,448,960,0,0,0,8192,28672,61440,126976,260096,522240,0,0,3145728,7340032,15728640,0,0,67108864,234881024,503316480,1040187392,2146435072,4294965248,8589934591,17179869183]
theorem r18_Color.tab11:rtab .any (opsOf Try.f18 11)=r18_Color.T11:=by kernel_rfl
theorem r18_Color.bits11:waitsOk r18_Color.T11.2 r18_Color.B11=true:=by kernel_rfl
set_option maxHeartbeats 8000000 in
set_option maxRecDepth 100000 in
theorem r18_Color.calls (k:Nat) (A0:Option Addr) (c0:Nat) (l0:List (S47)) (a1:Int) (r1:Int) (r2:Int) (r3:Int) (r4:Int) (w:World) (hr0:Kd.C k47 w A0 l0.length l0) (hc0:l0.length≤c0) (h:r18_Color.f k l0 a1=some (r1,r2,r3,r4)) :
  Calls Try.prog 18 #[.slice A0 l0.length c0,.int .i64 a1] w fun e w'=>e = .returned (.agg #[.int .i64 r1,.int .i64 r2,.int .i64 r3,.int .i64 r4])∧Below w.heap.size w w':=by
 have hu38:=Try.underlying38;have HR0:=Aside0.mk hr0;have HC0:=Aside0.mk hc0;clear hr0 hc0;have HB:=Aside0.mk (Below.refl w.heap.size w)
 have H:((r18_Stops.f k l0).bind fun t387=>(if t387=0 then ((r06_U.f a1).bind fun t388=>(if 0<(l0.length:Int) then (r18_Color.l0 k l0 t388 (l0.length:Int) 0 ((rd_T47 l0 0).f1.f0) ((rd_T47 l0 0).f1.f1) ((rd_T47 l0 0).f1.f2) ((rd_T47 l0 0).f1.f3)) else (none))) else (some (0,0,0,0))))=some (r1,r2,r3,r4):=h
 clear h;replace H:=Option.bind_eq_some_iff.mp H;obtain ⟨t387,A30,H⟩:=H
 replace H:(if t387=0 then ((r06_U.f a1).bind fun t388=>(if 0<(l0.length:Int) then (r18_Color.l0 k l0 t388 (l0.length:Int) 0 ((rd_T47 l0 0).f1.f0) ((rd_T47 l0 0).f1.f1) ((rd_T47 l0 0).f1.f2) ((rd_T47 l0 0).f1.f3)) else (none))) else (some (0,0,0,0)))=some (r1,r2,r3,r4):=H
 have A3:=Aside0.mk A30;clear A30;by_cases c4:t387=0
 ·rw [if_pos c4] at H
  have c4b0:=beq_iff_eq.mpr c4;have c4b1:=bne_eq_false_iff_eq.mpr c4;clear c4;replace H:=Option.bind_eq_some_iff.mp H;obtain ⟨t388,A50,H⟩:=H
  replace H:(if 0<(l0.length:Int) then (r18_Color.l0 k l0 t388 (l0.length:Int) 0 ((rd_T47 l0 0).f1.f0) ((rd_T47 l0 0).f1.f1) ((rd_T47 l0 0).f1.f2) ((rd_T47 l0 0).f1.f3)) else (none))=some (r1,r2,r3,r4):=H
  have A5:=Aside0.mk A50;clear A50;by_cases c6:0<(l0.length:Int)
  ·rw [if_pos c6] at H
   have c6b0:=decide_eq_true c6
   have c6b1:decide (0<l0.length)=true:=decide_eq_true (by omega)
   clear c6;have H':=Aside0.mk H;clear H
   go_enter Try.func18,Try.ntmps18
   go_wp2_with (first|((with_reducible refine gate_dst (N:=4) rfl ?_);refine box_event ?hg (N:=4) ?hd (cs:=#[.int .i64 0,.int .i64 0,.int .i64 0,.int .i64 0]) (t:=38) ?hr ?_;(case hd=>rfl);(case hg=>rfl);(case hr=>first|(go_simp;done)|(go_simp;rfl));intro gb386 hg w7 hbox hb;have n0_:=Aside0.mk (below_step (by repeat first|(with_reducible first|exact HB.out|apply lA_|apply lN_|apply lD_)|exact HB.out) hb);have n1_:=Aside0.mk (hbox);have n2_:=Aside0.mk ((by rw [hg];exact (below_size (by repeat first|(with_reducible first|exact HB.out|apply lA_|apply lN_|apply lD_)|exact HB.out)):w.heap.size≤gb386));have n3_:=Aside0.mk ((by rw [hg];exact (below_size (by repeat first|(with_reducible first|exact HB.out|apply lA_|apply lN_|apply lD_)|exact HB.out)):w.heap.size≤gb386));clear HB;have HB:=n0_;have BK386:=n1_;have GW386:=n2_;have GE386:=n3_;clear n0_ n1_ n2_ n3_;clear hb hbox hg)|((with_reducible refine gate_callee (f:=22) rfl ?_);refine goesL_ (some 8) rfl rfl Try.func22 (by kernel_rfl) rfl #[.slice A0 l0.length c0] rfl (by (try simp only [mA_,mC_,mN_]);first|done|rfl|(simp only [dL_,kL_];rfl)) ?_;(with_reducible refine (r18_Stops.calls k _ _ l0 t387 _ ?side1 ?side2 A3.out).mono ?_);(case side1=>repeat (first|exact (Kd.C_below HR0.out HB.out)|(with_reducible refine Kd.C_alloc ?_ _)|(with_reducible refine Kd.C_drewN ?_ _)|(with_reducible refine Kd.C_drew ?_)));(case side2=>exact HC0.out);rintro e w8 ⟨rfl,hb⟩;refine ⟨_,rfl,?_⟩;have n0_:=Aside0.mk (blk_below (by (with_reducible repeat first|apply bN_|apply bD_|apply bA_);exact BK386.out) hb);have n1_:=Aside0.mk (below_step (by repeat first|(with_reducible first|exact HB.out|apply lA_|apply lN_|apply lD_|refine lS_ ?_ GE386.out)|exact HB.out) hb);clear BK386;clear HB;have BK386:=n0_;have HB:=n1_;clear n0_ n1_;(try clear hb);(try clear hb2);(try clear hk);(try clear hi))|((with_reducible refine gate_callee (f:=32) rfl ?_);refine goesL_ (some 12) rfl rfl Try.func32 (by kernel_rfl) rfl #[.int .i64 a1] rfl (by (try simp only [mA_,mC_,mN_]);first|done|rfl|(simp only [dL_,kL_];rfl)) ?_;(with_reducible refine (r06_U.calls a1 t388 _ A5.out).mono ?_);rintro e w9 ⟨rfl,hb⟩;refine ⟨_,rfl,?_⟩;have n0_:=Aside0.mk (blk_below (by (with_reducible repeat first|apply bN_|apply bD_|apply bA_);exact BK386.out) hb);have n1_:=Aside0.mk (below_step (by repeat first|(with_reducible first|exact HB.out|apply lA_|apply lN_|apply lD_|refine lS_ ?_ GE386.out)|exact HB.out) hb);clear BK386;clear HB;have BK386:=n0_;have HB:=n1_;clear n0_ n1_;(try clear hb);(try clear hb2);(try clear hk);(try clear hi);have p389:0≤(0:Int):=(by omega);have q389:0<(l0.length:Int):=of_decide_eq_true (by first|(with_reducible assumption)|assumption);obtain ⟨ad389,e389,hx389_0,hx389_1,hx389_2,hx389_3,hx389_4⟩:=at_T47 HR0.out 0 p389 q389;cases e389;have qi389:(0<l0.length)=True:=eq_true (by omega);(try rw [show ((0:Int)).toNat=0 from rfl] at hx389_0);(try rw [show 0*5=0 from rfl] at hx389_0);(try rw [Addr.add_zero'] at hx389_0);(try rw [show ((0:Int)).toNat=0 from rfl] at hx389_1);(try rw [show 0*5=0 from rfl] at hx389_1);(try rw [Addr.add_zero'] at hx389_1);(try rw [show ((0:Int)).toNat=0 from rfl] at hx389_2);(try rw [show 0*5=0 from rfl] at hx389_2);(try rw [Addr.add_zero'] at hx389_2);(try rw [show ((0:Int)).toNat=0 from rfl] at hx389_3);(try rw [show 0*5=0 from rfl] at hx389_3);(try rw [Addr.add_zero'] at hx389_3);(try rw [show ((0:Int)).toNat=0 from rfl] at hx389_4);(try rw [show 0*5=0 from rfl] at hx389_4);(try rw [Addr.add_zero'] at hx389_4);replace hx389_0:=(HB.out.cell (World.block_lt_of_cell? w _ hx389_0)).trans hx389_0;replace hx389_1:=(HB.out.cell (World.block_lt_of_cell? w _ hx389_1)).trans hx389_1;replace hx389_2:=(HB.out.cell (World.block_lt_of_cell? w _ hx389_2)).trans hx389_2;replace hx389_3:=(HB.out.cell (World.block_lt_of_cell? w _ hx389_3)).trans hx389_3;replace hx389_4:=(HB.out.cell (World.block_lt_of_cell? w _ hx389_4)).trans hx389_4;replace p389:=eq_true p389;replace q389:=eq_true q389)|((with_reducible refine gate_dst (N:=5) rfl ?_);refine box_event ?hg (N:=5) ?hd (cs:=#[.int .i64 0,.int .i64 0,.int .i64 0,.int .i64 0]) (t:=38) ?hr ?_;(case hd=>rfl);(case hg=>rfl);(case hr=>first|(go_simp;done)|(go_simp;rfl));intro gb390 hg w10 hbox hb;have n0_:=Aside0.mk (blk_below (by (with_reducible repeat first|apply bN_|apply bD_|apply bA_);exact BK386.out) hb);have n1_:=Aside0.mk (below_step (by repeat first|(with_reducible first|exact HB.out|apply lA_|apply lN_|apply lD_|refine lS_ ?_ GE386.out)|exact HB.out) hb);have n2_:=Aside0.mk (hbox);have n3_:=Aside0.mk ((by rw [hg];exact (below_size (by repeat first|(with_reducible first|exact HB.out|apply lA_|apply lN_|apply lD_|refine lS_ ?_ GE386.out)|exact HB.out)):w.heap.size≤gb390));have n4_:=Aside0.mk ((by rw [hg];exact (below_size (by repeat first|(with_reducible first|exact HB.out|apply lA_|apply lN_|apply lD_|refine lS_ ?_ GE386.out)|exact HB.out)):w.heap.size≤gb390));have n5_:=Aside0.mk ((by rw [hg];exact Nat.ne_of_lt (blk_lt (g:=gb386) (o:=.cells #[.int .i64 0,.int .i64 0,.int .i64 0,.int .i64 0] 38 (0,0)) (by (with_reducible repeat first|apply bN_|apply bD_|apply bA_);exact BK386.out)):gb386 ≠ gb390));have n6_:=Aside0.mk ((by rw [hg];exact Nat.ne_of_gt (blk_lt (g:=gb386) (o:=.cells #[.int .i64 0,.int .i64 0,.int .i64 0,.int .i64 0] 38 (0,0)) (by (with_reducible repeat first|apply bN_|apply bD_|apply bA_);exact BK386.out)):gb390 ≠ gb386));clear BK386;clear HB;have BK386:=n0_;have HB:=n1_;have BK390:=n2_;have GW390:=n3_;have GE390:=n4_;have NB386_390:=n5_;have NB390_386:=n6_;clear n0_ n1_ n2_ n3_ n4_ n5_ n6_;clear hb hbox hg;have hnb11:=NB390_386.out;have hnc11:=NB386_390.out;have hcz12_0:w10.cell? ⟨gb390,0,none⟩=some (.int .i64 0):=(blk_cell BK390.out 0).trans rfl;have hcz12_1:w10.cell? ⟨gb390,1,none⟩=some (.int .i64 0):=(blk_cell BK390.out 1).trans rfl;have hcz12_2:w10.cell? ⟨gb390,2,none⟩=some (.int .i64 0):=(blk_cell BK390.out 2).trans rfl;have hcz12_3:w10.cell? ⟨gb390,3,none⟩=some (.int .i64 0):=(blk_cell BK390.out 3).trans rfl;have hfz12_0:=blk_frozen BK390.out 0;have hfz12_1:=blk_frozen BK390.out 1;have hfz12_2:=blk_frozen BK390.out 2;have hfz12_3:=blk_frozen BK390.out 3))
   go_loopg [19] k (fun kq v19 w'=>∃ (x19_1:Int) (x391000_1:Int) (x391001_1:Int) (x391002_1:Int) (x391003_1:Int),v19 = .int .i64 x19_1∧Aside0 (r18_Color.l0 kq l0 t388 (l0.length:Int) x19_1 x391000_1 x391001_1 x391002_1 x391003_1=some (r1,r2,r3,r4))∧Aside0 (kq≤k)∧Aside0 (w'.heap[gb386]? = some (.cells #[.int .i64 0,.int .i64 0,.int .i64 0,.int .i64 0] 38 (0,0)))∧Aside0 (w'.heap[gb390]? = some (.cells #[.int .i64 x391000_1,.int .i64 x391001_1,.int .i64 x391002_1,.int .i64 x391003_1] 38 (0,0)))∧Aside0 (Below w.heap.size w w'))
   case atStart=>exact ⟨(0),((rd_T47 l0 0).f1.f0),((rd_T47 l0 0).f1.f1),((rd_T47 l0 0).f1.f2),((rd_T47 l0 0).f1.f3),(by first|rfl|(simp;done)|(simp [*];done)),H',⟨Nat.le_refl _⟩,⟨by (with_reducible repeat first|apply bN_|apply bD_|apply bA_);refine blk_far ?_ NB386_390.out _;(with_reducible repeat first|apply bN_|apply bD_|apply bA_);refine blk_far ?_ NB386_390.out _;(with_reducible repeat first|apply bN_|apply bD_|apply bA_);refine blk_far ?_ NB386_390.out _;(with_reducible repeat first|apply bN_|apply bD_|apply bA_);refine blk_far ?_ NB386_390.out _;(with_reducible repeat first|apply bN_|apply bD_|apply bA_);exact BK386.out⟩,⟨by (with_reducible repeat first|apply bN_|apply bD_|apply bA_);refine blk_put (cs:=#[.int .i64 ((rd_T47 l0 0).f1.f0),.int .i64 ((rd_T47 l0 0).f1.f1),.int .i64 ((rd_T47 l0 0).f1.f2),.int .i64 0]) ?_ 3 _ rfl;(with_reducible repeat first|apply bN_|apply bD_|apply bA_);refine blk_put (cs:=#[.int .i64 ((rd_T47 l0 0).f1.f0),.int .i64 ((rd_T47 l0 0).f1.f1),.int .i64 0,.int .i64 0]) ?_ 2 _ rfl;(with_reducible repeat first|apply bN_|apply bD_|apply bA_);refine blk_put (cs:=#[.int .i64 ((rd_T47 l0 0).f1.f0),.int .i64 0,.int .i64 0,.int .i64 0]) ?_ 1 _ rfl;(with_reducible repeat first|apply bN_|apply bD_|apply bA_);refine blk_put (cs:=#[.int .i64 0,.int .i64 0,.int .i64 0,.int .i64 0]) ?_ 0 _ rfl;(with_reducible repeat first|apply bN_|apply bD_|apply bA_);exact BK390.out⟩,⟨by repeat first|(with_reducible first|exact HB.out|apply lA_|apply lN_|apply lD_|refine lS_ ?_ GE386.out|refine lS_ ?_ GE390.out)|exact HB.out⟩⟩
   case round =>
    clear H';obtain ⟨x19_1,x391000_1,x391001_1,x391002_1,x391003_1,rfl,HA,HK1,BK386,BK390,HB⟩:=hrel
    cases gk with
    | zero=>exact absurd HA.out (by simp [r18_Color.l0])
    | succ k1 =>
     have H:=HA.out;clear HA;simp only [r18_Color.l0] at H;by_cases c13:x19_1<(l0.length:Int)
     ·rw [if_pos c13] at H
      have c13b0:=decide_eq_true c13;clear c13;by_cases c14:0≤x19_1
      ·rw [if_pos c14] at H
       have c14b0:=decide_eq_true c14;clear c14;by_cases c15:x19_1<(l0.length:Int)
       ·rw [if_pos c15] at H
        have c15b0:=decide_eq_true c15;clear c15;have HC16:=Aside0.mk H;clear H
        have p391:0≤(x19_1:Int):=of_decide_eq_true (by first|(with_reducible assumption)|assumption)
        have q391:x19_1<(l0.length:Int):=of_decide_eq_true (by first|(with_reducible assumption)|assumption)
        obtain ⟨ad391,e391,hx391_0,hx391_1,hx391_2,hx391_3,hx391_4⟩:=at_T47 HR0.out x19_1 p391 q391
        obtain rfl:ad389=ad391:=(by injection e391)
        replace hx391_0:=(HB.out.cell (World.block_lt_of_cell? w _ hx391_0)).trans hx391_0;replace hx391_1:=(HB.out.cell (World.block_lt_of_cell? w _ hx391_1)).trans hx391_1;replace hx391_2:=(HB.out.cell (World.block_lt_of_cell? w _ hx391_2)).trans hx391_2;replace hx391_3:=(HB.out.cell (World.block_lt_of_cell? w _ hx391_3)).trans hx391_3;replace hx391_4:=(HB.out.cell (World.block_lt_of_cell? w _ hx391_4)).trans hx391_4;replace p391:=eq_true p391;replace q391:=eq_true q391
        go_upto_if 28 with (fail)
        go_cut [] (fun wc=>∃ (kq:Nat) (x391000_15:Int) (x391001_15:Int) (x391002_15:Int) (x391003_15:Int),Aside0 (r18_Color.j1 kq l0 t388 x19_1 (l0.length:Int) x19_1 x391000_15 x391001_15 x391002_15 x391003_15=some (r1,r2,r3,r4))∧Aside0 (kq≤k1)∧Aside0 (wc.heap[gb386]? = some (.cells #[.int .i64 0,.int .i64 0,.int .i64 0,.int .i64 0] 38 (0,0)))∧Aside0 (wc.heap[gb390]? = some (.cells #[.int .i64 x391000_15,.int .i64 x391001_15,.int .i64 x391002_15,.int .i64 x391003_15] 38 (0,0)))∧Aside0 (Below w.heap.size w wc))
        case first =>
         have H:=HC16.out;clear HC16;by_cases c17:t388≥((rd_T47 l0 x19_1).f0)
         ·rw [if_pos c17] at H
          have c17b0:=decide_eq_true c17;clear c17
          (first|rw [c17b0]|(simp only [i64_w,i32_w];rw [c17b0])|skip)
          have H':=Aside0.mk H;clear H
          have p392:0≤(x19_1:Int):=of_decide_eq_true (by first|(with_reducible assumption)|assumption)
          have q392:x19_1<(l0.length:Int):=of_decide_eq_true (by first|(with_reducible assumption)|assumption)
          obtain ⟨ad392,e392,hx392_0,hx392_1,hx392_2,hx392_3,hx392_4⟩:=at_T47 HR0.out x19_1 p392 q392
          obtain rfl:ad389=ad392:=(by injection e392)
          replace hx392_0:=(HB.out.cell (World.block_lt_of_cell? w _ hx392_0)).trans hx392_0;replace hx392_1:=(HB.out.cell (World.block_lt_of_cell? w _ hx392_1)).trans hx392_1;replace hx392_2:=(HB.out.cell (World.block_lt_of_cell? w _ hx392_2)).trans hx392_2;replace hx392_3:=(HB.out.cell (World.block_lt_of_cell? w _ hx392_3)).trans hx392_3;replace hx392_4:=(HB.out.cell (World.block_lt_of_cell? w _ hx392_4)).trans hx392_4;replace p392:=eq_true p392;replace q392:=eq_true q392;have hnb18:=NB390_386.out;have hnc18:=NB386_390.out;have hcz19_0:wr.cell? ⟨gb390,0,none⟩=some (.int .i64 x391000_1):=(blk_cell BK390.out 0).trans rfl;have hcz19_1:wr.cell? ⟨gb390,1,none⟩=some (.int .i64 x391001_1):=(blk_cell BK390.out 1).trans rfl;have hcz19_2:wr.cell? ⟨gb390,2,none⟩=some (.int .i64 x391002_1):=(blk_cell BK390.out 2).trans rfl;have hcz19_3:wr.cell? ⟨gb390,3,none⟩=some (.int .i64 x391003_1):=(blk_cell BK390.out 3).trans rfl;have hfz19_0:=blk_frozen BK390.out 0;have hfz19_1:=blk_frozen BK390.out 1;have hfz19_2:=blk_frozen BK390.out 2;have hfz19_3:=blk_frozen BK390.out 3
          go_wp2
          go_meet
          case rel=>exact ⟨_,((rd_T47 l0 x19_1).f1.f0),((rd_T47 l0 x19_1).f1.f1),((rd_T47 l0 x19_1).f1.f2),((rd_T47 l0 x19_1).f1.f3),H',⟨by have:=HK1.out;first|omega|exact Nat.le_refl _⟩,⟨by (with_reducible repeat first|apply bN_|apply bD_|apply bA_);refine blk_far ?_ NB386_390.out _;(with_reducible repeat first|apply bN_|apply bD_|apply bA_);refine blk_far ?_ NB386_390.out _;(with_reducible repeat first|apply bN_|apply bD_|apply bA_);refine blk_far ?_ NB386_390.out _;(with_reducible repeat first|apply bN_|apply bD_|apply bA_);refine blk_far ?_ NB386_390.out _;(with_reducible repeat first|apply bN_|apply bD_|apply bA_);exact BK386.out⟩,⟨by (with_reducible repeat first|apply bN_|apply bD_|apply bA_);refine blk_put (cs:=#[.int .i64 ((rd_T47 l0 x19_1).f1.f0),.int .i64 ((rd_T47 l0 x19_1).f1.f1),.int .i64 ((rd_T47 l0 x19_1).f1.f2),.int .i64 x391003_1]) ?_ 3 _ rfl;(with_reducible repeat first|apply bN_|apply bD_|apply bA_);refine blk_put (cs:=#[.int .i64 ((rd_T47 l0 x19_1).f1.f0),.int .i64 ((rd_T47 l0 x19_1).f1.f1),.int .i64 x391002_1,.int .i64 x391003_1]) ?_ 2 _ rfl;(with_reducible repeat first|apply bN_|apply bD_|apply bA_);refine blk_put (cs:=#[.int .i64 ((rd_T47 l0 x19_1).f1.f0),.int .i64 x391001_1,.int .i64 x391002_1,.int .i64 x391003_1]) ?_ 1 _ rfl;(with_reducible repeat first|apply bN_|apply bD_|apply bA_);refine blk_put (cs:=#[.int .i64 x391000_1,.int .i64 x391001_1,.int .i64 x391002_1,.int .i64 x391003_1]) ?_ 0 _ rfl;(with_reducible repeat first|apply bN_|apply bD_|apply bA_);exact BK390.out⟩,⟨by repeat first|(with_reducible first|exact HB.out|apply lA_|apply lN_|apply lD_|refine lS_ ?_ GE386.out|refine lS_ ?_ GE390.out)|exact HB.out⟩⟩
         rw [if_neg c17] at H;have c17b0:=decide_eq_false c17;clear c17
         (first|rw [c17b0]|(simp only [i64_w,i32_w];rw [c17b0])|skip)
         have H':=Aside0.mk H;clear H
         go_wp2
         go_meet
         case rel=>exact ⟨_,(x391000_1),(x391001_1),(x391002_1),(x391003_1),H',⟨by have:=HK1.out;first|omega|exact Nat.le_refl _⟩,⟨by (with_reducible repeat first|apply bN_|apply bD_|apply bA_);exact BK386.out⟩,⟨by (with_reducible repeat first|apply bN_|apply bD_|apply bA_);exact BK390.out⟩,⟨by repeat first|(with_reducible first|exact HB.out|apply lA_|apply lN_|apply lD_|refine lS_ ?_ GE386.out|refine lS_ ?_ GE390.out)|exact HB.out⟩⟩
        case rest =>
         clear HC16;obtain ⟨kq,x391000_15,x391001_15,x391002_15,x391003_15,HA,HJ15,BK386,BK390,HB⟩:=hcut
         cases kq with
         | zero=>exact absurd HA.out (by simp [r18_Color.j1])
         | succ kj15 =>
          have H:=HA.out;clear HA;simp only [r18_Color.j1] at H;have HC20:=Aside0.mk H;clear H
          go_upto_region 10 with (fail)
          go_cut [54] (fun v54 wc=>∃ (kq:Nat) (x54_19:Bool),v54 = .bool x54_19∧Aside0 (r18_Color.j2 kq l0 t388 x19_1 (l0.length:Int) x19_1 x54_19 x391000_15 x391001_15 x391002_15 x391003_15=some (r1,r2,r3,r4))∧Aside0 (kq≤kj15)∧Aside0 (wc.heap[gb386]? = some (.cells #[.int .i64 0,.int .i64 0,.int .i64 0,.int .i64 0] 38 (0,0)))∧Aside0 (wc.heap[gb390]? = some (.cells #[.int .i64 x391000_15,.int .i64 x391001_15,.int .i64 x391002_15,.int .i64 x391003_15] 38 (0,0)))∧Aside0 (Below w.heap.size w wc))
          case first =>
           have H:=HC20.out;clear HC20;by_cases c21:x19_1>0
           ·rw [if_pos c21] at H
            have c21b0:=decide_eq_true c21;clear c21
            (first|rw [c21b0]|(simp only [i64_w,i32_w];rw [c21b0])|skip)
            obtain ⟨ji22,hji22⟩:∃ j_:Int,(wrap64 (x19_1-1))=j_:=⟨_,rfl⟩
            replace H:(if 0≤(ji22) then (if (ji22)<(l0.length:Int) then (if t388>((rd_T47 l0 (ji22)).f0) then (if 0≤x19_1 then (if x19_1<(l0.length:Int) then (r18_Color.j2 kj15 l0 t388 x19_1 (l0.length:Int) x19_1 (decide (t388<((rd_T47 l0 x19_1).f0))) x391000_15 x391001_15 x391002_15 x391003_15) else (none)) else (none)) else (r18_Color.j2 kj15 l0 t388 x19_1 (l0.length:Int) x19_1 false x391000_15 x391001_15 x391002_15 x391003_15)) else (none)) else (none))=some (r1,r2,r3,r4):=by first|(rw [hji22] at H;exact H)|(simp only [hji22] at H ⊢;exact H)
            have hji22w:(IntKind.i64.wrap (x19_1-1))=ji22:=(i64_w _).trans hji22;by_cases c23:0≤(ji22)
            ·rw [if_pos c23] at H
             have c23b0:=decide_eq_true c23;clear c23;by_cases c24:(ji22)<(l0.length:Int)
             ·rw [if_pos c24] at H
              have c24b0:=decide_eq_true c24;clear c24;by_cases c25:t388>((rd_T47 l0 (ji22)).f0)
              ·rw [if_pos c25] at H
               have c25b0:=decide_eq_true c25;clear c25;by_cases c26:0≤x19_1
               ·rw [if_pos c26] at H
                have c26b0:=decide_eq_true c26;clear c26;by_cases c27:x19_1<(l0.length:Int)
                ·rw [if_pos c27] at H
                 have c27b0:=decide_eq_true c27;clear c27;have H':=Aside0.mk H;clear H
                 have p393:0≤((ji22):Int):=of_decide_eq_true (by first|(with_reducible assumption)|assumption)
                 have q393:(ji22)<(l0.length:Int):=of_decide_eq_true (by first|(with_reducible assumption)|assumption)
                 obtain ⟨ad393,e393,hx393_0,hx393_1,hx393_2,hx393_3,hx393_4⟩:=at_T47 HR0.out (ji22) p393 q393
                 obtain rfl:ad389=ad393:=(by injection e393)
                 replace hx393_0:=(HB.out.cell (World.block_lt_of_cell? w _ hx393_0)).trans hx393_0;replace hx393_1:=(HB.out.cell (World.block_lt_of_cell? w _ hx393_1)).trans hx393_1;replace hx393_2:=(HB.out.cell (World.block_lt_of_cell? w _ hx393_2)).trans hx393_2;replace hx393_3:=(HB.out.cell (World.block_lt_of_cell? w _ hx393_3)).trans hx393_3;replace hx393_4:=(HB.out.cell (World.block_lt_of_cell? w _ hx393_4)).trans hx393_4;replace p393:=eq_true p393;replace q393:=eq_true q393
                 have p394:0≤(x19_1:Int):=of_decide_eq_true (by first|(with_reducible assumption)|assumption)
                 have q394:x19_1<(l0.length:Int):=of_decide_eq_true (by first|(with_reducible assumption)|assumption)
                 obtain ⟨ad394,e394,hx394_0,hx394_1,hx394_2,hx394_3,hx394_4⟩:=at_T47 HR0.out x19_1 p394 q394
                 obtain rfl:ad389=ad394:=(by injection e394)
                 replace hx394_0:=(HB.out.cell (World.block_lt_of_cell? w _ hx394_0)).trans hx394_0;replace hx394_1:=(HB.out.cell (World.block_lt_of_cell? w _ hx394_1)).trans hx394_1;replace hx394_2:=(HB.out.cell (World.block_lt_of_cell? w _ hx394_2)).trans hx394_2;replace hx394_3:=(HB.out.cell (World.block_lt_of_cell? w _ hx394_3)).trans hx394_3;replace hx394_4:=(HB.out.cell (World.block_lt_of_cell? w _ hx394_4)).trans hx394_4;replace p394:=eq_true p394;replace q394:=eq_true q394
                 go_wp2
                 go_meet
                 case rel=>exact ⟨_,(decide (t388<((rd_T47 l0 x19_1).f0))),(by first|rfl|(simp;done)|(simp [*];done)),H',⟨by have:=HK1.out;have:=HJ15.out;first|omega|exact Nat.le_refl _⟩,⟨by (with_reducible repeat first|apply bN_|apply bD_|apply bA_);exact BK386.out⟩,⟨by (with_reducible repeat first|apply bN_|apply bD_|apply bA_);exact BK390.out⟩,⟨by repeat first|(with_reducible first|exact HB.out|apply lA_|apply lN_|apply lD_|refine lS_ ?_ GE386.out|refine lS_ ?_ GE390.out)|exact HB.out⟩⟩
                rw [if_neg c27] at H
                exact absurd H (by simp)
               rw [if_neg c26] at H
               exact absurd H (by simp)
              rw [if_neg c25] at H;have c25b0:=decide_eq_false c25;clear c25;have H':=Aside0.mk H;clear H
              have p393:0≤((ji22):Int):=of_decide_eq_true (by first|(with_reducible assumption)|assumption)
              have q393:(ji22)<(l0.length:Int):=of_decide_eq_true (by first|(with_reducible assumption)|assumption)
              obtain ⟨ad393,e393,hx393_0,hx393_1,hx393_2,hx393_3,hx393_4⟩:=at_T47 HR0.out (ji22) p393 q393
              obtain rfl:ad389=ad393:=(by injection e393)
              replace hx393_0:=(HB.out.cell (World.block_lt_of_cell? w _ hx393_0)).trans hx393_0;replace hx393_1:=(HB.out.cell (World.block_lt_of_cell? w _ hx393_1)).trans hx393_1;replace hx393_2:=(HB.out.cell (World.block_lt_of_cell? w _ hx393_2)).trans hx393_2;replace hx393_3:=(HB.out.cell (World.block_lt_of_cell? w _ hx393_3)).trans hx393_3;replace hx393_4:=(HB.out.cell (World.block_lt_of_cell? w _ hx393_4)).trans hx393_4;replace p393:=eq_true p393;replace q393:=eq_true q393
              go_wp2
              go_meet
              case rel=>exact ⟨_,(false),(by first|rfl|(simp;done)|(simp [*];done)),H',⟨by have:=HK1.out;have:=HJ15.out;first|omega|exact Nat.le_refl _⟩,⟨by (with_reducible repeat first|apply bN_|apply bD_|apply bA_);exact BK386.out⟩,⟨by (with_reducible repeat first|apply bN_|apply bD_|apply bA_);exact BK390.out⟩,⟨by repeat first|(with_reducible first|exact HB.out|apply lA_|apply lN_|apply lD_|refine lS_ ?_ GE386.out|refine lS_ ?_ GE390.out)|exact HB.out⟩⟩
             rw [if_neg c24] at H
             exact absurd H (by simp)
            rw [if_neg c23] at H
            exact absurd H (by simp)
           rw [if_neg c21] at H;have c21b0:=decide_eq_false c21;clear c21
           (first|rw [c21b0]|(simp only [i64_w,i32_w];rw [c21b0])|skip)
           have H':=Aside0.mk H;clear H
           go_wp2
           go_meet
           case rel=>exact ⟨_,(false),(by first|rfl|(simp;done)|(simp [*];done)),H',⟨by have:=HK1.out;have:=HJ15.out;first|omega|exact Nat.le_refl _⟩,⟨by (with_reducible repeat first|apply bN_|apply bD_|apply bA_);exact BK386.out⟩,⟨by (with_reducible repeat first|apply bN_|apply bD_|apply bA_);exact BK390.out⟩,⟨by repeat first|(with_reducible first|exact HB.out|apply lA_|apply lN_|apply lD_|refine lS_ ?_ GE386.out|refine lS_ ?_ GE390.out)|exact HB.out⟩⟩
          case rest =>
           clear HC20;obtain ⟨kq,x54_19,rfl,HA,HJ19,BK386,BK390,HB⟩:=hcut
           cases kq with
           | zero=>exact absurd HA.out (by simp [r18_Color.j2])
           | succ kj19 =>
            have H:=HA.out;clear HA;simp only [r18_Color.j2] at H;by_cases c28:x54_19=true
            ·subst c28
             have H1:(if 0≤(wrap64 (x19_1-1)) then (if (wrap64 (x19_1-1))<(l0.length:Int) then (if 0≤x19_1 then (if x19_1<(l0.length:Int) then ((r01_Div.f kj19 (wrap64 (65535*(wrap64 (t388-((rd_T47 l0 (wrap64 (x19_1-1))).f0))))) (wrap64 (((rd_T47 l0 x19_1).f0)-((rd_T47 l0 (wrap64 (x19_1-1))).f0)))).bind fun t400=>((r06_Mix.f kj19 ((rd_T47 l0 (wrap64 (x19_1-1))).f1.f0) ((rd_T47 l0 (wrap64 (x19_1-1))).f1.f1) ((rd_T47 l0 (wrap64 (x19_1-1))).f1.f2) ((rd_T47 l0 (wrap64 (x19_1-1))).f1.f3) ((rd_T47 l0 x19_1).f1.f0) ((rd_T47 l0 x19_1).f1.f1) ((rd_T47 l0 x19_1).f1.f2) ((rd_T47 l0 x19_1).f1.f3) t400).bind fun bt401=>(r18_Color.l0 kj19 l0 t388 (l0.length:Int) (wrap64 (x19_1+1)) bt401.1 bt401.2.1 bt401.2.2.1 bt401.2.2.2))) else (none)) else (none)) else (none)) else (none))=some (r1,r2,r3,r4):=by rw [if_pos rfl] at H;exact H
             clear H;have H:=H1;clear H1;obtain ⟨ji29,hji29⟩:∃ j_:Int,(wrap64 (x19_1-1))=j_:=⟨_,rfl⟩
             replace H:(if 0≤(ji29) then (if (ji29)<(l0.length:Int) then (if 0≤x19_1 then (if x19_1<(l0.length:Int) then ((r01_Div.f kj19 (wrap64 (65535*(wrap64 (t388-((rd_T47 l0 (ji29)).f0))))) (wrap64 (((rd_T47 l0 x19_1).f0)-((rd_T47 l0 (ji29)).f0)))).bind fun t400=>((r06_Mix.f kj19 ((rd_T47 l0 (ji29)).f1.f0) ((rd_T47 l0 (ji29)).f1.f1) ((rd_T47 l0 (ji29)).f1.f2) ((rd_T47 l0 (ji29)).f1.f3) ((rd_T47 l0 x19_1).f1.f0) ((rd_T47 l0 x19_1).f1.f1) ((rd_T47 l0 x19_1).f1.f2) ((rd_T47 l0 x19_1).f1.f3) t400).bind fun bt401=>(r18_Color.l0 kj19 l0 t388 (l0.length:Int) (wrap64 (x19_1+1)) bt401.1 bt401.2.1 bt401.2.2.1 bt401.2.2.2))) else (none)) else (none)) else (none)) else (none))=some (r1,r2,r3,r4):=by first|(rw [hji29] at H;exact H)|(simp only [hji29] at H ⊢;exact H)
             have hji29w:(IntKind.i64.wrap (x19_1-1))=ji29:=(i64_w _).trans hji29;by_cases c30:0≤(ji29)
             ·rw [if_pos c30] at H
              have c30b0:=decide_eq_true c30;clear c30;by_cases c31:(ji29)<(l0.length:Int)
              ·rw [if_pos c31] at H
               have c31b0:=decide_eq_true c31;clear c31;by_cases c32:0≤x19_1
               ·rw [if_pos c32] at H
                have c32b0:=decide_eq_true c32;clear c32;by_cases c33:x19_1<(l0.length:Int)
                ·rw [if_pos c33] at H
                 have c33b0:=decide_eq_true c33;clear c33;replace H:=Option.bind_eq_some_iff.mp H;obtain ⟨t400,A340,H⟩:=H
                 replace H:((r06_Mix.f kj19 ((rd_T47 l0 (ji29)).f1.f0) ((rd_T47 l0 (ji29)).f1.f1) ((rd_T47 l0 (ji29)).f1.f2) ((rd_T47 l0 (ji29)).f1.f3) ((rd_T47 l0 x19_1).f1.f0) ((rd_T47 l0 x19_1).f1.f1) ((rd_T47 l0 x19_1).f1.f2) ((rd_T47 l0 x19_1).f1.f3) t400).bind fun bt401=>(r18_Color.l0 kj19 l0 t388 (l0.length:Int) (wrap64 (x19_1+1)) bt401.1 bt401.2.1 bt401.2.2.1 bt401.2.2.2))=some (r1,r2,r3,r4):=H
                 have A34:=Aside0.mk A340;clear A340;replace H:=Option.bind_eq_some_iff.mp H;obtain ⟨⟨t401,t402,t403,t404⟩,A350,H⟩:=H;replace H:(r18_Color.l0 kj19 l0 t388 (l0.length:Int) (wrap64 (x19_1+1)) t401 t402 t403 t404)=some (r1,r2,r3,r4):=H;have A35:=Aside0.mk A350;clear A350;have H':=Aside0.mk H;clear H
                 try go_wp2
                 have n0_:=Aside0.mk (blk_drew BK386.out);have n1_:=Aside0.mk (blk_drew BK390.out);have n2_:=Aside0.mk (below_drew1 HB.out);clear BK386;clear BK390;clear HB;have BK386:=n0_;have BK390:=n1_;have HB:=n2_;clear n0_ n1_ n2_
                 have p395:0≤((ji29):Int):=of_decide_eq_true (by first|(with_reducible assumption)|assumption)
                 have q395:(ji29)<(l0.length:Int):=of_decide_eq_true (by first|(with_reducible assumption)|assumption)
                 obtain ⟨ad395,e395,hx395_0,hx395_1,hx395_2,hx395_3,hx395_4⟩:=at_T47 HR0.out (ji29) p395 q395;have hw395_4:=hx395_4;have hw395_3:=hx395_3;have hw395_2:=hx395_2;have hw395_1:=hx395_1;have hw395_0:=hx395_0
                 obtain rfl:ad389=ad395:=(by injection e395)
                 replace hx395_0:=(HB.out.cell (World.block_lt_of_cell? w _ hx395_0)).trans hx395_0;replace hx395_1:=(HB.out.cell (World.block_lt_of_cell? w _ hx395_1)).trans hx395_1;replace hx395_2:=(HB.out.cell (World.block_lt_of_cell? w _ hx395_2)).trans hx395_2;replace hx395_3:=(HB.out.cell (World.block_lt_of_cell? w _ hx395_3)).trans hx395_3;replace hx395_4:=(HB.out.cell (World.block_lt_of_cell? w _ hx395_4)).trans hx395_4;replace p395:=eq_true p395;replace q395:=eq_true q395
                 have p396:0≤(x19_1:Int):=of_decide_eq_true (by first|(with_reducible assumption)|assumption)
                 have q396:x19_1<(l0.length:Int):=of_decide_eq_true (by first|(with_reducible assumption)|assumption)
                 obtain ⟨ad396,e396,hx396_0,hx396_1,hx396_2,hx396_3,hx396_4⟩:=at_T47 HR0.out x19_1 p396 q396;have hw396_4:=hx396_4;have hw396_3:=hx396_3;have hw396_2:=hx396_2;have hw396_1:=hx396_1;have hw396_0:=hx396_0
                 obtain rfl:ad389=ad396:=(by injection e396)
                 replace hx396_0:=(HB.out.cell (World.block_lt_of_cell? w _ hx396_0)).trans hx396_0;replace hx396_1:=(HB.out.cell (World.block_lt_of_cell? w _ hx396_1)).trans hx396_1;replace hx396_2:=(HB.out.cell (World.block_lt_of_cell? w _ hx396_2)).trans hx396_2;replace hx396_3:=(HB.out.cell (World.block_lt_of_cell? w _ hx396_3)).trans hx396_3;replace hx396_4:=(HB.out.cell (World.block_lt_of_cell? w _ hx396_4)).trans hx396_4;replace p396:=eq_true p396;replace q396:=eq_true q396
                 have p397:0≤((ji29):Int):=of_decide_eq_true (by first|(with_reducible assumption)|assumption)
                 have q397:(ji29)<(l0.length:Int):=of_decide_eq_true (by first|(with_reducible assumption)|assumption)
                 obtain ⟨ad397,e397,hx397_0,hx397_1,hx397_2,hx397_3,hx397_4⟩:=at_T47 HR0.out (ji29) p397 q397;have hw397_4:=hx397_4;have hw397_3:=hx397_3;have hw397_2:=hx397_2;have hw397_1:=hx397_1;have hw397_0:=hx397_0
                 obtain rfl:ad389=ad397:=(by injection e397)
                 replace hx397_0:=(HB.out.cell (World.block_lt_of_cell? w _ hx397_0)).trans hx397_0;replace hx397_1:=(HB.out.cell (World.block_lt_of_cell? w _ hx397_1)).trans hx397_1;replace hx397_2:=(HB.out.cell (World.block_lt_of_cell? w _ hx397_2)).trans hx397_2;replace hx397_3:=(HB.out.cell (World.block_lt_of_cell? w _ hx397_3)).trans hx397_3;replace hx397_4:=(HB.out.cell (World.block_lt_of_cell? w _ hx397_4)).trans hx397_4;replace p397:=eq_true p397;replace q397:=eq_true q397
                 have p398:0≤(x19_1:Int):=of_decide_eq_true (by first|(with_reducible assumption)|assumption)
                 have q398:x19_1<(l0.length:Int):=of_decide_eq_true (by first|(with_reducible assumption)|assumption)
                 obtain ⟨ad398,e398,hx398_0,hx398_1,hx398_2,hx398_3,hx398_4⟩:=at_T47 HR0.out x19_1 p398 q398;have hw398_4:=hx398_4;have hw398_3:=hx398_3;have hw398_2:=hx398_2;have hw398_1:=hx398_1;have hw398_0:=hx398_0
                 obtain rfl:ad389=ad398:=(by injection e398)
                 replace hx398_0:=(HB.out.cell (World.block_lt_of_cell? w _ hx398_0)).trans hx398_0;replace hx398_1:=(HB.out.cell (World.block_lt_of_cell? w _ hx398_1)).trans hx398_1;replace hx398_2:=(HB.out.cell (World.block_lt_of_cell? w _ hx398_2)).trans hx398_2;replace hx398_3:=(HB.out.cell (World.block_lt_of_cell? w _ hx398_3)).trans hx398_3;replace hx398_4:=(HB.out.cell (World.block_lt_of_cell? w _ hx398_4)).trans hx398_4;replace p398:=eq_true p398;replace q398:=eq_true q398
                 have p399:0≤((ji29):Int):=of_decide_eq_true (by first|(with_reducible assumption)|assumption)
                 have q399:(ji29)<(l0.length:Int):=of_decide_eq_true (by first|(with_reducible assumption)|assumption)
                 obtain ⟨ad399,e399,hx399_0,hx399_1,hx399_2,hx399_3,hx399_4⟩:=at_T47 HR0.out (ji29) p399 q399;have hw399_4:=hx399_4;have hw399_3:=hx399_3;have hw399_2:=hx399_2;have hw399_1:=hx399_1;have hw399_0:=hx399_0
                 obtain rfl:ad389=ad399:=(by injection e399)
                 replace hx399_0:=(HB.out.cell (World.block_lt_of_cell? w _ hx399_0)).trans hx399_0;replace hx399_1:=(HB.out.cell (World.block_lt_of_cell? w _ hx399_1)).trans hx399_1;replace hx399_2:=(HB.out.cell (World.block_lt_of_cell? w _ hx399_2)).trans hx399_2;replace hx399_3:=(HB.out.cell (World.block_lt_of_cell? w _ hx399_3)).trans hx399_3;replace hx399_4:=(HB.out.cell (World.block_lt_of_cell? w _ hx399_4)).trans hx399_4;replace p399:=eq_true p399;replace q399:=eq_true q399
                 refine start_ (n:=35) (S:=fun w'=>w'.cell? (ad389.add (((ji29)).toNat*5))=some (.int .i64 ((rd_T47 l0 (ji29)).f0))∧w'.cell? ⟨(ad389.add (((ji29)).toNat*5)).block,(ad389.add (((ji29)).toNat*5)).off+1,none⟩=some (.int .i64 ((rd_T47 l0 (ji29)).f1.f0))∧w'.cell? ⟨(ad389.add (((ji29)).toNat*5)).block,(ad389.add (((ji29)).toNat*5)).off+2,none⟩=some (.int .i64 ((rd_T47 l0 (ji29)).f1.f1))∧w'.cell? ⟨(ad389.add (((ji29)).toNat*5)).block,(ad389.add (((ji29)).toNat*5)).off+3,none⟩=some (.int .i64 ((rd_T47 l0 (ji29)).f1.f2))∧w'.cell? ⟨(ad389.add (((ji29)).toNat*5)).block,(ad389.add (((ji29)).toNat*5)).off+4,none⟩=some (.int .i64 ((rd_T47 l0 (ji29)).f1.f3))∧w'.cell? (ad389.add ((x19_1).toNat*5))=some (.int .i64 ((rd_T47 l0 x19_1).f0))∧w'.cell? ⟨(ad389.add ((x19_1).toNat*5)).block,(ad389.add ((x19_1).toNat*5)).off+1,none⟩=some (.int .i64 ((rd_T47 l0 x19_1).f1.f0))∧w'.cell? ⟨(ad389.add ((x19_1).toNat*5)).block,(ad389.add ((x19_1).toNat*5)).off+2,none⟩=some (.int .i64 ((rd_T47 l0 x19_1).f1.f1))∧w'.cell? ⟨(ad389.add ((x19_1).toNat*5)).block,(ad389.add ((x19_1).toNat*5)).off+3,none⟩=some (.int .i64 ((rd_T47 l0 x19_1).f1.f2))∧w'.cell? ⟨(ad389.add ((x19_1).toNat*5)).block,(ad389.add ((x19_1).toNat*5)).off+4,none⟩=some (.int .i64 ((rd_T47 l0 x19_1).f1.f3))∧w'.cell? (ad389.add (((ji29)).toNat*5))=some (.int .i64 ((rd_T47 l0 (ji29)).f0))∧w'.cell? ⟨(ad389.add (((ji29)).toNat*5)).block,(ad389.add (((ji29)).toNat*5)).off+1,none⟩=some (.int .i64 ((rd_T47 l0 (ji29)).f1.f0))∧w'.cell? ⟨(ad389.add (((ji29)).toNat*5)).block,(ad389.add (((ji29)).toNat*5)).off+2,none⟩=some (.int .i64 ((rd_T47 l0 (ji29)).f1.f1))∧w'.cell? ⟨(ad389.add (((ji29)).toNat*5)).block,(ad389.add (((ji29)).toNat*5)).off+3,none⟩=some (.int .i64 ((rd_T47 l0 (ji29)).f1.f2))∧w'.cell? ⟨(ad389.add (((ji29)).toNat*5)).block,(ad389.add (((ji29)).toNat*5)).off+4,none⟩=some (.int .i64 ((rd_T47 l0 (ji29)).f1.f3))∧w'.cell? (ad389.add ((x19_1).toNat*5))=some (.int .i64 ((rd_T47 l0 x19_1).f0))∧w'.cell? ⟨(ad389.add ((x19_1).toNat*5)).block,(ad389.add ((x19_1).toNat*5)).off+1,none⟩=some (.int .i64 ((rd_T47 l0 x19_1).f1.f0))∧w'.cell? ⟨(ad389.add ((x19_1).toNat*5)).block,(ad389.add ((x19_1).toNat*5)).off+2,none⟩=some (.int .i64 ((rd_T47 l0 x19_1).f1.f1))∧w'.cell? ⟨(ad389.add ((x19_1).toNat*5)).block,(ad389.add ((x19_1).toNat*5)).off+3,none⟩=some (.int .i64 ((rd_T47 l0 x19_1).f1.f2))∧w'.cell? ⟨(ad389.add ((x19_1).toNat*5)).block,(ad389.add ((x19_1).toNat*5)).off+4,none⟩=some (.int .i64 ((rd_T47 l0 x19_1).f1.f3))∧w'.cell? (ad389.add (((ji29)).toNat*5))=some (.int .i64 ((rd_T47 l0 (ji29)).f0))∧w'.cell? ⟨(ad389.add (((ji29)).toNat*5)).block,(ad389.add (((ji29)).toNat*5)).off+1,none⟩=some (.int .i64 ((rd_T47 l0 (ji29)).f1.f0))∧w'.cell? ⟨(ad389.add (((ji29)).toNat*5)).block,(ad389.add (((ji29)).toNat*5)).off+2,none⟩=some (.int .i64 ((rd_T47 l0 (ji29)).f1.f1))∧w'.cell? ⟨(ad389.add (((ji29)).toNat*5)).block,(ad389.add (((ji29)).toNat*5)).off+3,none⟩=some (.int .i64 ((rd_T47 l0 (ji29)).f1.f2))∧w'.cell? ⟨(ad389.add (((ji29)).toNat*5)).block,(ad389.add (((ji29)).toNat*5)).off+4,none⟩=some (.int .i64 ((rd_T47 l0 (ji29)).f1.f3))) (ds:=[]) #[F_,F_,F_,F_,F_,F_,F_,F_,F_,F_,F_,F_,F_,F_,F_,F_,F_,F_,F_,F_,F_,F_,F_,F_,F_,F_,F_,F_,F_,F_,F_,F_,F_,F_,F_] (by kernel_rfl) rfl rfl ⟨((HB.out.cell (World.block_lt_of_cell? w _ hw395_0)).trans hw395_0),((HB.out.cell (World.block_lt_of_cell? w _ hw395_1)).trans hw395_1),((HB.out.cell (World.block_lt_of_cell? w _ hw395_2)).trans hw395_2),((HB.out.cell (World.block_lt_of_cell? w _ hw395_3)).trans hw395_3),((HB.out.cell (World.block_lt_of_cell? w _ hw395_4)).trans hw395_4),((HB.out.cell (World.block_lt_of_cell? w _ hw396_0)).trans hw396_0),((HB.out.cell (World.block_lt_of_cell? w _ hw396_1)).trans hw396_1),((HB.out.cell (World.block_lt_of_cell? w _ hw396_2)).trans hw396_2),((HB.out.cell (World.block_lt_of_cell? w _ hw396_3)).trans hw396_3),((HB.out.cell (World.block_lt_of_cell? w _ hw396_4)).trans hw396_4),((HB.out.cell (World.block_lt_of_cell? w _ hw397_0)).trans hw397_0),((HB.out.cell (World.block_lt_of_cell? w _ hw397_1)).trans hw397_1),((HB.out.cell (World.block_lt_of_cell? w _ hw397_2)).trans hw397_2),((HB.out.cell (World.block_lt_of_cell? w _ hw397_3)).trans hw397_3),((HB.out.cell (World.block_lt_of_cell? w _ hw397_4)).trans hw397_4),((HB.out.cell (World.block_lt_of_cell? w _ hw398_0)).trans hw398_0),((HB.out.cell (World.block_lt_of_cell? w _ hw398_1)).trans hw398_1),((HB.out.cell (World.block_lt_of_cell? w _ hw398_2)).trans hw398_2),((HB.out.cell (World.block_lt_of_cell? w _ hw398_3)).trans hw398_3),((HB.out.cell (World.block_lt_of_cell? w _ hw398_4)).trans hw398_4),((HB.out.cell (World.block_lt_of_cell? w _ hw399_0)).trans hw399_0),((HB.out.cell (World.block_lt_of_cell? w _ hw399_1)).trans hw399_1),((HB.out.cell (World.block_lt_of_cell? w _ hw399_2)).trans hw399_2),((HB.out.cell (World.block_lt_of_cell? w _ hw399_3)).trans hw399_3),((HB.out.cell (World.block_lt_of_cell? w _ hw399_4)).trans hw399_4)⟩ (fun hHeld=>?_);refine with_tabW r18_Color.tab11 r18_Color.bits11 (fun HT_ HW_=>?_)
                 generalize wc.drew=w36 at BK386 BK390 HB hx395_0 hx395_1 hx395_2 hx395_3 hx395_4 hx396_0 hx396_1 hx396_2 hx396_3 hx396_4 hx397_0 hx397_1 hx397_2 hx397_3 hx397_4 hx398_0 hx398_1 hx398_2 hx398_3 hx398_4 hx399_0 hx399_1 hx399_2 hx399_3 hx399_4 hHeld ⊢
                 refine pure_ (i:=0) (N:=some 55) (v:=?_) (a':=?_) #[T_,F_,F_,F_,F_,F_,F_,F_,F_,F_,F_,F_,F_,F_,F_,F_,F_,F_,F_,F_,F_,F_,F_,F_,F_,F_,F_,F_,F_,F_,F_,F_,F_,F_,F_] rfl rfl (any_of HT_.out (by kernel_rfl)) (fun _ _ _ h=>h) (Or.inl ⟨by rfl,?_⟩) ?_ ?_
                 rotate_left
                 ·intro w'
                  go_simp
                  with_reducible rfl
                 rotate_left
                 ·simp only [Act.put,tS_,tZ_,tC_,i64_w,i32_w]
                  rfl
                 refine pure_ (i:=1) (N:=some 56) (v:=?_) (a':=?_) #[T_,T_,F_,F_,F_,F_,F_,F_,F_,F_,F_,F_,F_,F_,F_,F_,F_,F_,F_,F_,F_,F_,F_,F_,F_,F_,F_,F_,F_,F_,F_,F_,F_,F_,F_] rfl rfl (any_of HT_.out (by kernel_rfl)) (fun _ _ _ h=>h) (Or.inl ⟨by rfl,?_⟩) ?_ ?_
                 rotate_left
                 ·intro w'
                  go_simp
                  with_reducible rfl
                 rotate_left
                 ·simp only [Act.put,tS_,tZ_,tC_,i64_w,i32_w]
                  rfl
                 refine pure_ (i:=2) (N:=some 57) (v:=?_) (a':=?_) #[T_,T_,T_,F_,F_,F_,F_,F_,F_,F_,F_,F_,F_,F_,F_,F_,F_,F_,F_,F_,F_,F_,F_,F_,F_,F_,F_,F_,F_,F_,F_,F_,F_,F_,F_] rfl rfl (any_of HT_.out (by kernel_rfl)) (fun _ _ _ h=>h) (Or.inl ⟨by rfl,?_⟩) ?_ ?_
                 rotate_left
                 ·intro w'
                  go_simp
                  with_reducible rfl
                 rotate_left
                 ·simp only [Act.put,tS_,tZ_,tC_,i64_w,i32_w]
                  rfl
                 refine pure_ (i:=3) (N:=some 58) (v:=?_) (a':=?_) #[T_,T_,T_,T_,F_,F_,F_,F_,F_,F_,F_,F_,F_,F_,F_,F_,F_,F_,F_,F_,F_,F_,F_,F_,F_,F_,F_,F_,F_,F_,F_,F_,F_,F_,F_] rfl rfl (any_of HT_.out (by kernel_rfl)) (fun _ _ _ h=>h) (Or.inl ⟨by rfl,?_⟩) ?_ ?_
                 rotate_left
                 ·intro w'
                  go_simp
                  with_reducible rfl
                 rotate_left
                 ·simp only [Act.put,tS_,tZ_,tC_,i64_w,i32_w]
                  rfl
                 refine pure_ (i:=4) (N:=some 59) (v:=?_) (a':=?_) #[T_,T_,T_,T_,T_,F_,F_,F_,F_,F_,F_,F_,F_,F_,F_,F_,F_,F_,F_,F_,F_,F_,F_,F_,F_,F_,F_,F_,F_,F_,F_,F_,F_,F_,F_] rfl rfl (any_of HT_.out (by kernel_rfl)) (fun _ _ _ h=>h) (Or.inl ⟨by rfl,?_⟩) ?_ ?_
                 rotate_left
                 ·intro w'
                  go_simp
                  with_reducible rfl
                 rotate_left
                 ·simp only [Act.put,tS_,tZ_,tC_,i64_w,i32_w]
                  rfl
                 refine pure_ (i:=6) (N:=some 61) (v:=?_) (a':=?_) #[T_,T_,T_,T_,T_,F_,T_,F_,F_,F_,F_,F_,F_,F_,F_,F_,F_,F_,F_,F_,F_,F_,F_,F_,F_,F_,F_,F_,F_,F_,F_,F_,F_,F_,F_] rfl rfl (any_of HT_.out (by kernel_rfl)) (fun _ _ _ h=>h) (Or.inl ⟨by rfl,?_⟩) ?_ ?_
                 rotate_left
                 ·intro w'
                  go_simp
                  with_reducible rfl
                 rotate_left
                 ·simp only [Act.put,tS_,tZ_,tC_,i64_w,i32_w]
                  rfl
                 refine pure_ (i:=7) (N:=some 62) (v:=?_) (a':=?_) #[T_,T_,T_,T_,T_,F_,T_,T_,F_,F_,F_,F_,F_,F_,F_,F_,F_,F_,F_,F_,F_,F_,F_,F_,F_,F_,F_,F_,F_,F_,F_,F_,F_,F_,F_] rfl rfl (any_of HT_.out (by kernel_rfl)) (fun _ _ _ h=>h) (Or.inl ⟨by rfl,?_⟩) ?_ ?_
                 rotate_left
                 ·intro w'
                  go_simp
                  with_reducible rfl
                 rotate_left
                 ·simp only [Act.put,tS_,tZ_,tC_,i64_w,i32_w]
                  rfl
                 refine pure_ (i:=8) (N:=some 63) (v:=?_) (a':=?_) #[T_,T_,T_,T_,T_,F_,T_,T_,T_,F_,F_,F_,F_,F_,F_,F_,F_,F_,F_,F_,F_,F_,F_,F_,F_,F_,F_,F_,F_,F_,F_,F_,F_,F_,F_] rfl rfl (any_of HT_.out (by kernel_rfl)) (fun _ _ _ h=>h) (Or.inl ⟨by rfl,?_⟩) ?_ ?_
                 rotate_left
                 ·intro w'
                  go_simp
                  with_reducible rfl
                 rotate_left
                 ·simp only [Act.put,tS_,tZ_,tC_,i64_w,i32_w]
                  rfl
                 refine pure_ (i:=9) (N:=some 64) (v:=?_) (a':=?_) #[T_,T_,T_,T_,T_,F_,T_,T_,T_,T_,F_,F_,F_,F_,F_,F_,F_,F_,F_,F_,F_,F_,F_,F_,F_,F_,F_,F_,F_,F_,F_,F_,F_,F_,F_] rfl rfl (any_of HT_.out (by kernel_rfl)) (fun _ _ _ h=>h) (Or.inl ⟨by rfl,?_⟩) ?_ ?_
                 rotate_left
                 ·intro w'
                  go_simp
                  with_reducible rfl
                 rotate_left
                 ·simp only [Act.put,tS_,tZ_,tC_,i64_w,i32_w]
                  rfl
                 refine pure_ (i:=11) (N:=some 66) (v:=?_) (a':=?_) #[T_,T_,T_,T_,T_,F_,T_,T_,T_,T_,F_,T_,F_,F_,F_,F_,F_,F_,F_,F_,F_,F_,F_,F_,F_,F_,F_,F_,F_,F_,F_,F_,F_,F_,F_] rfl rfl (any_of HT_.out (by kernel_rfl)) (fun _ _ _ h=>h) (Or.inl ⟨by rfl,?_⟩) ?_ ?_
                 rotate_left
                 ·intro w'
                  go_simp
                  with_reducible rfl
                 rotate_left
                 ·simp only [Act.put,tS_,tZ_,tC_,i64_w,i32_w]
                  rfl
                 refine pure_ (i:=12) (N:=some 67) (v:=?_) (a':=?_) #[T_,T_,T_,T_,T_,F_,T_,T_,T_,T_,F_,T_,T_,F_,F_,F_,F_,F_,F_,F_,F_,F_,F_,F_,F_,F_,F_,F_,F_,F_,F_,F_,F_,F_,F_] rfl rfl (any_of HT_.out (by kernel_rfl)) (fun _ _ _ h=>h) (Or.inl ⟨by rfl,?_⟩) ?_ ?_
                 rotate_left
                 ·intro w'
                  go_simp
                  with_reducible rfl
                 rotate_left
                 ·simp only [Act.put,tS_,tZ_,tC_,i64_w,i32_w]
                  rfl
                 refine pure_ (i:=13) (N:=some 68) (v:=?_) (a':=?_) #[T_,T_,T_,T_,T_,F_,T_,T_,T_,T_,F_,T_,T_,T_,F_,F_,F_,F_,F_,F_,F_,F_,F_,F_,F_,F_,F_,F_,F_,F_,F_,F_,F_,F_,F_] rfl rfl (any_of HT_.out (by kernel_rfl)) (fun _ _ _ h=>h) (Or.inl ⟨by rfl,?_⟩) ?_ ?_
                 rotate_left
                 ·intro w'
                  go_simp
                  with_reducible rfl
                 rotate_left
                 ·simp only [Act.put,tS_,tZ_,tC_,i64_w,i32_w]
                  rfl
                 refine pure_ (i:=14) (N:=some 69) (v:=?_) (a':=?_) #[T_,T_,T_,T_,T_,F_,T_,T_,T_,T_,F_,T_,T_,T_,T_,F_,F_,F_,F_,F_,F_,F_,F_,F_,F_,F_,F_,F_,F_,F_,F_,F_,F_,F_,F_] rfl rfl (any_of HT_.out (by kernel_rfl)) (fun _ _ _ h=>h) (Or.inl ⟨by rfl,?_⟩) ?_ ?_
                 rotate_left
                 ·intro w'
                  go_simp
                  with_reducible rfl
                 rotate_left
                 ·simp only [Act.put,tS_,tZ_,tC_,i64_w,i32_w]
                  rfl
                 refine pure_ (i:=15) (N:=some 70) (v:=?_) (a':=?_) #[T_,T_,T_,T_,T_,F_,T_,T_,T_,T_,F_,T_,T_,T_,T_,T_,F_,F_,F_,F_,F_,F_,F_,F_,F_,F_,F_,F_,F_,F_,F_,F_,F_,F_,F_] rfl rfl (any_of HT_.out (by kernel_rfl)) (fun _ _ _ h=>h) (Or.inl ⟨by rfl,?_⟩) ?_ ?_
                 rotate_left
                 ·intro w'
                  go_simp
                  with_reducible rfl
                 rotate_left
                 ·simp only [Act.put,tS_,tZ_,tC_,i64_w,i32_w]
                  rfl
                 refine pure_ (i:=16) (N:=some 71) (v:=?_) (a':=?_) #[T_,T_,T_,T_,T_,F_,T_,T_,T_,T_,F_,T_,T_,T_,T_,T_,T_,F_,F_,F_,F_,F_,F_,F_,F_,F_,F_,F_,F_,F_,F_,F_,F_,F_,F_] rfl rfl (any_of HT_.out (by kernel_rfl)) (fun _ _ _ h=>h) (Or.inl ⟨by rfl,?_⟩) ?_ ?_
                 rotate_left
                 ·intro w'
                  go_simp
                  with_reducible rfl
                 rotate_left
                 ·simp only [Act.put,tS_,tZ_,tC_,i64_w,i32_w]
                  rfl
                 refine pure_ (i:=20) (N:=some 75) (v:=?_) (a':=?_) #[T_,T_,T_,T_,T_,F_,T_,T_,T_,T_,F_,T_,T_,T_,T_,T_,T_,F_,F_,F_,T_,F_,F_,F_,F_,F_,F_,F_,F_,F_,F_,F_,F_,F_,F_] rfl rfl (any_of HT_.out (by kernel_rfl)) (fun _ _ _ h=>h) (Or.inl ⟨by rfl,?_⟩) ?_ ?_
                 rotate_left
                 ·intro w'
                  go_simp
                  with_reducible rfl
                 rotate_left
                 ·simp only [Act.put,tS_,tZ_,tC_,i64_w,i32_w]
                  rfl
                 refine pure_ (i:=21) (N:=some 76) (v:=?_) (a':=?_) #[T_,T_,T_,T_,T_,F_,T_,T_,T_,T_,F_,T_,T_,T_,T_,T_,T_,F_,F_,F_,T_,T_,F_,F_,F_,F_,F_,F_,F_,F_,F_,F_,F_,F_,F_] rfl rfl (any_of HT_.out (by kernel_rfl)) (fun _ _ _ h=>h) (Or.inl ⟨by rfl,?_⟩) ?_ ?_
                 rotate_left
                 ·intro w'
                  go_simp
                  with_reducible rfl
                 rotate_left
                 ·simp only [Act.put,tS_,tZ_,tC_,i64_w,i32_w]
                  rfl
                 refine pure_ (i:=22) (N:=some 77) (v:=?_) (a':=?_) #[T_,T_,T_,T_,T_,F_,T_,T_,T_,T_,F_,T_,T_,T_,T_,T_,T_,F_,F_,F_,T_,T_,T_,F_,F_,F_,F_,F_,F_,F_,F_,F_,F_,F_,F_] rfl rfl (any_of HT_.out (by kernel_rfl)) (fun _ _ _ h=>h) (Or.inl ⟨by rfl,?_⟩) ?_ ?_
                 rotate_left
                 ·intro w'
                  go_simp
                  with_reducible rfl
                 rotate_left
                 ·simp only [Act.put,tS_,tZ_,tC_,i64_w,i32_w]
                  rfl
                 refine pure_ (i:=23) (N:=some 78) (v:=?_) (a':=?_) #[T_,T_,T_,T_,T_,F_,T_,T_,T_,T_,F_,T_,T_,T_,T_,T_,T_,F_,F_,F_,T_,T_,T_,T_,F_,F_,F_,F_,F_,F_,F_,F_,F_,F_,F_] rfl rfl (any_of HT_.out (by kernel_rfl)) (fun _ _ _ h=>h) (Or.inl ⟨by rfl,?_⟩) ?_ ?_
                 rotate_left
                 ·intro w'
                  go_simp
                  with_reducible rfl
                 rotate_left
                 ·simp only [Act.put,tS_,tZ_,tC_,i64_w,i32_w]
                  rfl
                 refine pure_ (i:=25) (N:=some 80) (v:=?_) (a':=?_) #[T_,T_,T_,T_,T_,F_,T_,T_,T_,T_,F_,T_,T_,T_,T_,T_,T_,F_,F_,F_,T_,T_,T_,T_,F_,T_,F_,F_,F_,F_,F_,F_,F_,F_,F_] rfl rfl (any_of HT_.out (by kernel_rfl)) (fun _ _ _ h=>h) (Or.inl ⟨by rfl,?_⟩) ?_ ?_
                 rotate_left
                 ·intro w'
                  go_simp
                  with_reducible rfl
                 rotate_left
                 ·simp only [Act.put,tS_,tZ_,tC_,i64_w,i32_w]
                  rfl
                 refine pure_ (i:=26) (N:=some 81) (v:=?_) (a':=?_) #[T_,T_,T_,T_,T_,F_,T_,T_,T_,T_,F_,T_,T_,T_,T_,T_,T_,F_,F_,F_,T_,T_,T_,T_,F_,T_,T_,F_,F_,F_,F_,F_,F_,F_,F_] rfl rfl (any_of HT_.out (by kernel_rfl)) (fun _ _ _ h=>h) (Or.inl ⟨by rfl,?_⟩) ?_ ?_
                 rotate_left
                 ·intro w'
                  go_simp
                  with_reducible rfl
                 rotate_left
                 ·simp only [Act.put,tS_,tZ_,tC_,i64_w,i32_w]
                  rfl
                 refine pure_ (i:=27) (N:=some 82) (v:=?_) (a':=?_) #[T_,T_,T_,T_,T_,F_,T_,T_,T_,T_,F_,T_,T_,T_,T_,T_,T_,F_,F_,F_,T_,T_,T_,T_,F_,T_,T_,T_,F_,F_,F_,F_,F_,F_,F_] rfl rfl (any_of HT_.out (by kernel_rfl)) (fun _ _ _ h=>h) (Or.inl ⟨by rfl,?_⟩) ?_ ?_
                 rotate_left
                 ·intro w'
                  go_simp
                  with_reducible rfl
                 rotate_left
                 ·simp only [Act.put,tS_,tZ_,tC_,i64_w,i32_w]
                  rfl
                 refine pure_ (i:=28) (N:=some 83) (v:=?_) (a':=?_) #[T_,T_,T_,T_,T_,F_,T_,T_,T_,T_,F_,T_,T_,T_,T_,T_,T_,F_,F_,F_,T_,T_,T_,T_,F_,T_,T_,T_,T_,F_,F_,F_,F_,F_,F_] rfl rfl (any_of HT_.out (by kernel_rfl)) (fun _ _ _ h=>h) (Or.inl ⟨by rfl,?_⟩) ?_ ?_
                 rotate_left
                 ·intro w'
                  go_simp
                  with_reducible rfl
                 rotate_left
                 ·simp only [Act.put,tS_,tZ_,tC_,i64_w,i32_w]
                  rfl
                 refine pure_ (i:=29) (N:=some 84) (v:=?_) (a':=?_) #[T_,T_,T_,T_,T_,F_,T_,T_,T_,T_,F_,T_,T_,T_,T_,T_,T_,F_,F_,F_,T_,T_,T_,T_,F_,T_,T_,T_,T_,T_,F_,F_,F_,F_,F_] rfl rfl (any_of HT_.out (by kernel_rfl)) (fun _ _ _ h=>h) (Or.inl ⟨by rfl,?_⟩) ?_ ?_
                 rotate_left
                 ·intro w'
                  go_simp
                  with_reducible rfl
                 rotate_left
                 ·simp only [Act.put,tS_,tZ_,tC_,i64_w,i32_w]
                  rfl
                 refine take_ (i:=5) (N:=some 60) (v:=?_) (a':=?_) #[T_,T_,T_,T_,T_,T_,T_,T_,T_,T_,F_,T_,T_,T_,T_,T_,T_,F_,F_,F_,T_,T_,T_,T_,F_,T_,T_,T_,T_,T_,F_,F_,F_,F_,F_] rfl rfl (take_ofW HT_.out HW_.out (by kernel_rfl)) (fun _ _ _ h=>h) (Or.inl ⟨by rfl,?_⟩) hHeld ?_ ?_
                 rotate_left
                 ·rintro w' ⟨s0,s1,s2,s3,s4,s5,s6,s7,s8,s9,s10,s11,s12,s13,s14,s15,s16,s17,s18,s19,s20,s21,s22,s23,s24⟩
                  go_simp
                  with_reducible rfl
                 rotate_left
                 ·simp only [Act.put,tS_,tZ_,tC_,i64_w,i32_w]
                  rfl
                 refine take_ (i:=10) (N:=some 65) (v:=?_) (a':=?_) #[T_,T_,T_,T_,T_,T_,T_,T_,T_,T_,T_,T_,T_,T_,T_,T_,T_,F_,F_,F_,T_,T_,T_,T_,F_,T_,T_,T_,T_,T_,F_,F_,F_,F_,F_] rfl rfl (take_ofW HT_.out HW_.out (by kernel_rfl)) (fun _ _ _ h=>h) (Or.inl ⟨by rfl,?_⟩) hHeld ?_ ?_
                 rotate_left
                 ·rintro w' ⟨s0,s1,s2,s3,s4,s5,s6,s7,s8,s9,s10,s11,s12,s13,s14,s15,s16,s17,s18,s19,s20,s21,s22,s23,s24⟩
                  go_simp
                  with_reducible rfl
                 rotate_left
                 ·simp only [Act.put,tS_,tZ_,tC_,i64_w,i32_w]
                  rfl
                 refine take_ (i:=17) (N:=some 72) (v:=?_) (a':=?_) #[T_,T_,T_,T_,T_,T_,T_,T_,T_,T_,T_,T_,T_,T_,T_,T_,T_,T_,F_,F_,T_,T_,T_,T_,F_,T_,T_,T_,T_,T_,F_,F_,F_,F_,F_] rfl rfl (take_ofW HT_.out HW_.out (by kernel_rfl)) (fun _ _ _ h=>h) (Or.inl ⟨by rfl,?_⟩) hHeld ?_ ?_
                 rotate_left
                 ·rintro w' ⟨s0,s1,s2,s3,s4,s5,s6,s7,s8,s9,s10,s11,s12,s13,s14,s15,s16,s17,s18,s19,s20,s21,s22,s23,s24⟩
                  go_simp
                  with_reducible rfl
                 rotate_left
                 ·simp only [Act.put,tS_,tZ_,tC_,i64_w,i32_w]
                  rfl
                 refine pure_ (i:=18) (N:=some 73) (v:=?_) (a':=?_) #[T_,T_,T_,T_,T_,T_,T_,T_,T_,T_,T_,T_,T_,T_,T_,T_,T_,T_,T_,F_,T_,T_,T_,T_,F_,T_,T_,T_,T_,T_,F_,F_,F_,F_,F_] rfl rfl (any_of HT_.out (by kernel_rfl)) (fun _ _ _ h=>h) (Or.inl ⟨by rfl,?_⟩) ?_ ?_
                 rotate_left
                 ·intro w'
                  go_simp
                  with_reducible rfl
                 rotate_left
                 ·simp only [Act.put,tS_,tZ_,tC_,i64_w,i32_w]
                  rfl
                 refine pure_ (i:=19) (N:=some 74) (v:=?_) (a':=?_) #[T_,T_,T_,T_,T_,T_,T_,T_,T_,T_,T_,T_,T_,T_,T_,T_,T_,T_,T_,T_,T_,T_,T_,T_,F_,T_,T_,T_,T_,T_,F_,F_,F_,F_,F_] rfl rfl (any_of HT_.out (by kernel_rfl)) (fun _ _ _ h=>h) (Or.inl ⟨by rfl,?_⟩) ?_ ?_
                 rotate_left
                 ·intro w'
                  go_simp
                  with_reducible rfl
                 rotate_left
                 ·simp only [Act.put,tS_,tZ_,tC_,i64_w,i32_w]
                  rfl
                 refine take_ (i:=24) (N:=some 79) (v:=?_) (a':=?_) #[T_,T_,T_,T_,T_,T_,T_,T_,T_,T_,T_,T_,T_,T_,T_,T_,T_,T_,T_,T_,T_,T_,T_,T_,T_,T_,T_,T_,T_,T_,F_,F_,F_,F_,F_] rfl rfl (take_ofW HT_.out HW_.out (by kernel_rfl)) (fun _ _ _ h=>h) (Or.inl ⟨by rfl,?_⟩) hHeld ?_ ?_
                 rotate_left
                 ·rintro w' ⟨s0,s1,s2,s3,s4,s5,s6,s7,s8,s9,s10,s11,s12,s13,s14,s15,s16,s17,s18,s19,s20,s21,s22,s23,s24⟩
                  go_simp
                  with_reducible rfl
                 rotate_left
                 ·simp only [Act.put,tS_,tZ_,tC_,i64_w,i32_w]
                  rfl
                 refine take_ (i:=30) (N:=some 85) (v:=?_) (a':=?_) #[T_,T_,T_,T_,T_,T_,T_,T_,T_,T_,T_,T_,T_,T_,T_,T_,T_,T_,T_,T_,T_,T_,T_,T_,T_,T_,T_,T_,T_,T_,T_,F_,F_,F_,F_] rfl rfl (take_ofW HT_.out HW_.out (by kernel_rfl)) (fun _ _ _ h=>h) (Or.inl ⟨by rfl,?_⟩) hHeld ?_ ?_
                 rotate_left
                 ·rintro w' ⟨s0,s1,s2,s3,s4,s5,s6,s7,s8,s9,s10,s11,s12,s13,s14,s15,s16,s17,s18,s19,s20,s21,s22,s23,s24⟩
                  go_simp
                  with_reducible rfl
                 rotate_left
                 ·simp only [Act.put,tS_,tZ_,tC_,i64_w,i32_w]
                  rfl
                 refine pure_ (i:=31) (N:=some 86) (v:=?_) (a':=?_) #[T_,T_,T_,T_,T_,T_,T_,T_,T_,T_,T_,T_,T_,T_,T_,T_,T_,T_,T_,T_,T_,T_,T_,T_,T_,T_,T_,T_,T_,T_,T_,T_,F_,F_,F_] rfl rfl (any_of HT_.out (by kernel_rfl)) (fun _ _ _ h=>h) (Or.inl ⟨by rfl,?_⟩) ?_ ?_
                 rotate_left
                 ·intro w'
                  go_simp
                  with_reducible rfl
                 rotate_left
                 ·simp only [Act.put,tS_,tZ_,tC_,i64_w,i32_w]
                  rfl
                 refine one_ (i:=32) (N:=some 87) #[T_,T_,T_,T_,T_,T_,T_,T_,T_,T_,T_,T_,T_,T_,T_,T_,T_,T_,T_,T_,T_,T_,T_,T_,T_,T_,T_,T_,T_,T_,T_,T_,T_,F_,F_] rfl rfl (one_of HT_.out (by kernel_rfl)) (by decide) (fun K hK=>?_)
                 refine goes_ Try.func34 (by kernel_rfl) rfl #[.int .i64 (wrap64 (65535*(wrap64 (t388-((rd_T47 l0 (ji29)).f0))))),.int .i64 (wrap64 (((rd_T47 l0 x19_1).f0)-((rd_T47 l0 (ji29)).f0)))] (by rfl) rfl rfl (by (try simp only [List.map_toArray,List.map_cons,List.map_nil]);first|done|(simp only [hji29];rfl)|rfl|(simp only [List.length_drop,List.length_take];rfl)) ?_
                 with_reducible refine (r01_Div.calls kj19 (wrap64 (65535*(wrap64 (t388-((rd_T47 l0 (ji29)).f0))))) (wrap64 (((rd_T47 l0 x19_1).f0)-((rd_T47 l0 (ji29)).f0))) t400 _ A34.out).mono ?_
                 rintro e w' ⟨rfl,⟨nd,rfl⟩⟩;refine ⟨_,rfl,?_⟩
                 refine hK.out _ _ ⟨((HB.out.cell (World.block_lt_of_cell? w _ hw395_0)).trans hw395_0),((HB.out.cell (World.block_lt_of_cell? w _ hw395_1)).trans hw395_1),((HB.out.cell (World.block_lt_of_cell? w _ hw395_2)).trans hw395_2),((HB.out.cell (World.block_lt_of_cell? w _ hw395_3)).trans hw395_3),((HB.out.cell (World.block_lt_of_cell? w _ hw395_4)).trans hw395_4),((HB.out.cell (World.block_lt_of_cell? w _ hw396_0)).trans hw396_0),((HB.out.cell (World.block_lt_of_cell? w _ hw396_1)).trans hw396_1),((HB.out.cell (World.block_lt_of_cell? w _ hw396_2)).trans hw396_2),((HB.out.cell (World.block_lt_of_cell? w _ hw396_3)).trans hw396_3),((HB.out.cell (World.block_lt_of_cell? w _ hw396_4)).trans hw396_4),((HB.out.cell (World.block_lt_of_cell? w _ hw397_0)).trans hw397_0),((HB.out.cell (World.block_lt_of_cell? w _ hw397_1)).trans hw397_1),((HB.out.cell (World.block_lt_of_cell? w _ hw397_2)).trans hw397_2),((HB.out.cell (World.block_lt_of_cell? w _ hw397_3)).trans hw397_3),((HB.out.cell (World.block_lt_of_cell? w _ hw397_4)).trans hw397_4),((HB.out.cell (World.block_lt_of_cell? w _ hw398_0)).trans hw398_0),((HB.out.cell (World.block_lt_of_cell? w _ hw398_1)).trans hw398_1),((HB.out.cell (World.block_lt_of_cell? w _ hw398_2)).trans hw398_2),((HB.out.cell (World.block_lt_of_cell? w _ hw398_3)).trans hw398_3),((HB.out.cell (World.block_lt_of_cell? w _ hw398_4)).trans hw398_4),((HB.out.cell (World.block_lt_of_cell? w _ hw399_0)).trans hw399_0),((HB.out.cell (World.block_lt_of_cell? w _ hw399_1)).trans hw399_1),((HB.out.cell (World.block_lt_of_cell? w _ hw399_2)).trans hw399_2),((HB.out.cell (World.block_lt_of_cell? w _ hw399_3)).trans hw399_3),((HB.out.cell (World.block_lt_of_cell? w _ hw399_4)).trans hw399_4)⟩ (fun hHeld=>?_)
                 clear hK K;refine norm_ (a':=?_) ?_ ?_;rotate_left
                 ·show Act.put _ (some 87) _=_
                  simp only [Act.put,tS_,tZ_,tC_,i64_w,i32_w];rfl
                 refine one_ (i:=33) (N:=some 88) #[T_,T_,T_,T_,T_,T_,T_,T_,T_,T_,T_,T_,T_,T_,T_,T_,T_,T_,T_,T_,T_,T_,T_,T_,T_,T_,T_,T_,T_,T_,T_,T_,T_,T_,F_] rfl rfl (one_of HT_.out (by kernel_rfl)) (by decide) (fun K hK=>?_)
                 refine goes_ Try.func33 (by kernel_rfl) rfl #[.agg #[.int .i64 ((rd_T47 l0 (ji29)).f1.f0),.int .i64 ((rd_T47 l0 (ji29)).f1.f1),.int .i64 ((rd_T47 l0 (ji29)).f1.f2),.int .i64 ((rd_T47 l0 (ji29)).f1.f3)],.agg #[.int .i64 ((rd_T47 l0 x19_1).f1.f0),.int .i64 ((rd_T47 l0 x19_1).f1.f1),.int .i64 ((rd_T47 l0 x19_1).f1.f2),.int .i64 ((rd_T47 l0 x19_1).f1.f3)],.int .i64 t400] (by rfl) rfl rfl (by (try simp only [List.map_toArray,List.map_cons,List.map_nil]);first|done|(simp only [hji29];rfl)|rfl|(simp only [List.length_drop,List.length_take];rfl)) ?_
                 with_reducible refine (r06_Mix.calls kj19 ((rd_T47 l0 (ji29)).f1.f0) ((rd_T47 l0 (ji29)).f1.f1) ((rd_T47 l0 (ji29)).f1.f2) ((rd_T47 l0 (ji29)).f1.f3) ((rd_T47 l0 x19_1).f1.f0) ((rd_T47 l0 x19_1).f1.f1) ((rd_T47 l0 x19_1).f1.f2) ((rd_T47 l0 x19_1).f1.f3) t400 t401 t402 t403 t404 _ A35.out).mono ?_
                 rintro e w37 ⟨rfl,hb⟩;refine ⟨_,rfl,?_⟩
                 have n0_:=Aside0.mk (blk_below (by (with_reducible repeat first|apply bN_|apply bD_|apply bA_);exact BK386.out) hb)
                 have n1_:=Aside0.mk (blk_below (by (with_reducible repeat first|apply bN_|apply bD_|apply bA_);exact BK390.out) hb)
                 have n2_:=Aside0.mk (below_step (by repeat first|(with_reducible first|exact HB.out|apply lA_|apply lN_|apply lD_|refine lS_ ?_ GE386.out|refine lS_ ?_ GE390.out)|exact HB.out) hb)
                 clear BK386;clear BK390;clear HB;have BK386:=n0_;have BK390:=n1_;have HB:=n2_;clear n0_ n1_ n2_
                 (try clear hb)
                 (try clear hb2)
                 (try clear hk)
                 (try clear hi)
                 refine hK.out _ _ ⟨((HB.out.cell (World.block_lt_of_cell? w _ hw395_0)).trans hw395_0),((HB.out.cell (World.block_lt_of_cell? w _ hw395_1)).trans hw395_1),((HB.out.cell (World.block_lt_of_cell? w _ hw395_2)).trans hw395_2),((HB.out.cell (World.block_lt_of_cell? w _ hw395_3)).trans hw395_3),((HB.out.cell (World.block_lt_of_cell? w _ hw395_4)).trans hw395_4),((HB.out.cell (World.block_lt_of_cell? w _ hw396_0)).trans hw396_0),((HB.out.cell (World.block_lt_of_cell? w _ hw396_1)).trans hw396_1),((HB.out.cell (World.block_lt_of_cell? w _ hw396_2)).trans hw396_2),((HB.out.cell (World.block_lt_of_cell? w _ hw396_3)).trans hw396_3),((HB.out.cell (World.block_lt_of_cell? w _ hw396_4)).trans hw396_4),((HB.out.cell (World.block_lt_of_cell? w _ hw397_0)).trans hw397_0),((HB.out.cell (World.block_lt_of_cell? w _ hw397_1)).trans hw397_1),((HB.out.cell (World.block_lt_of_cell? w _ hw397_2)).trans hw397_2),((HB.out.cell (World.block_lt_of_cell? w _ hw397_3)).trans hw397_3),((HB.out.cell (World.block_lt_of_cell? w _ hw397_4)).trans hw397_4),((HB.out.cell (World.block_lt_of_cell? w _ hw398_0)).trans hw398_0),((HB.out.cell (World.block_lt_of_cell? w _ hw398_1)).trans hw398_1),((HB.out.cell (World.block_lt_of_cell? w _ hw398_2)).trans hw398_2),((HB.out.cell (World.block_lt_of_cell? w _ hw398_3)).trans hw398_3),((HB.out.cell (World.block_lt_of_cell? w _ hw398_4)).trans hw398_4),((HB.out.cell (World.block_lt_of_cell? w _ hw399_0)).trans hw399_0),((HB.out.cell (World.block_lt_of_cell? w _ hw399_1)).trans hw399_1),((HB.out.cell (World.block_lt_of_cell? w _ hw399_2)).trans hw399_2),((HB.out.cell (World.block_lt_of_cell? w _ hw399_3)).trans hw399_3),((HB.out.cell (World.block_lt_of_cell? w _ hw399_4)).trans hw399_4)⟩ (fun hHeld=>?_)
                 clear hK K;refine norm_ (a':=?_) ?_ ?_;rotate_left
                 ·show Act.put _ (some 88) _=_
                  simp only [Act.put,tS_,tZ_,tC_,i64_w,i32_w];rfl
                 refine one_ (i:=34) (N:=none) #[T_,T_,T_,T_,T_,T_,T_,T_,T_,T_,T_,T_,T_,T_,T_,T_,T_,T_,T_,T_,T_,T_,T_,T_,T_,T_,T_,T_,T_,T_,T_,T_,T_,T_,T_] rfl rfl (one_of HT_.out (by kernel_rfl)) (by decide) (fun K hK=>?_)
                 have hs38:w37.cell? ⟨gb390,0,none⟩=some (.int .i64 x391000_15):=(blk_cell BK390.out 0).trans rfl;have hfs38:=blk_frozen BK390.out 0;have hns38_0:=NB386_390.out;have hms38_0:=NB390_386.out;have hs39:w37.cell? ⟨gb390,1,none⟩=some (.int .i64 x391001_15):=(blk_cell BK390.out 1).trans rfl;have hfs39:=blk_frozen BK390.out 1;have hns39_0:=NB386_390.out;have hms39_0:=NB390_386.out;have hs40:w37.cell? ⟨gb390,2,none⟩=some (.int .i64 x391002_15):=(blk_cell BK390.out 2).trans rfl;have hfs40:=blk_frozen BK390.out 2;have hns40_0:=NB386_390.out;have hms40_0:=NB390_386.out;have hs41:w37.cell? ⟨gb390,3,none⟩=some (.int .i64 x391003_15):=(blk_cell BK390.out 3).trans rfl;have hfs41:=blk_frozen BK390.out 3;have hns41_0:=NB386_390.out;have hms41_0:=NB390_386.out
                 refine skip_ (w1:=?_) (by rfl) rfl ?_ ?_
                 rotate_left
                 ·go_simp
                  rfl
                 refine hK.out _ _ ⟨((cell_far (p:=⟨gb390,_,none⟩) (by exact far_ hw395_0 GW390.out) _).trans (((cell_far (p:=⟨gb390,_,none⟩) (by exact far_ hw395_0 GW390.out) _).trans (((cell_far (p:=⟨gb390,_,none⟩) (by exact far_ hw395_0 GW390.out) _).trans (((cell_far (p:=⟨gb390,_,none⟩) (by exact far_ hw395_0 GW390.out) _).trans (hHeld.1)))))))),((cell_far (p:=⟨gb390,_,none⟩) (by exact far_ hw395_1 GW390.out) _).trans (((cell_far (p:=⟨gb390,_,none⟩) (by exact far_ hw395_1 GW390.out) _).trans (((cell_far (p:=⟨gb390,_,none⟩) (by exact far_ hw395_1 GW390.out) _).trans (((cell_far (p:=⟨gb390,_,none⟩) (by exact far_ hw395_1 GW390.out) _).trans (hHeld.2.1)))))))),((cell_far (p:=⟨gb390,_,none⟩) (by exact far_ hw395_2 GW390.out) _).trans (((cell_far (p:=⟨gb390,_,none⟩) (by exact far_ hw395_2 GW390.out) _).trans (((cell_far (p:=⟨gb390,_,none⟩) (by exact far_ hw395_2 GW390.out) _).trans (((cell_far (p:=⟨gb390,_,none⟩) (by exact far_ hw395_2 GW390.out) _).trans (hHeld.2.2.1)))))))),((cell_far (p:=⟨gb390,_,none⟩) (by exact far_ hw395_3 GW390.out) _).trans (((cell_far (p:=⟨gb390,_,none⟩) (by exact far_ hw395_3 GW390.out) _).trans (((cell_far (p:=⟨gb390,_,none⟩) (by exact far_ hw395_3 GW390.out) _).trans (((cell_far (p:=⟨gb390,_,none⟩) (by exact far_ hw395_3 GW390.out) _).trans (hHeld.2.2.2.1)))))))),((cell_far (p:=⟨gb390,_,none⟩) (by exact far_ hw395_4 GW390.out) _).trans (((cell_far (p:=⟨gb390,_,none⟩) (by exact far_ hw395_4 GW390.out) _).trans (((cell_far (p:=⟨gb390,_,none⟩) (by exact far_ hw395_4 GW390.out) _).trans (((cell_far (p:=⟨gb390,_,none⟩) (by exact far_ hw395_4 GW390.out) _).trans (hHeld.2.2.2.2.1)))))))),((cell_far (p:=⟨gb390,_,none⟩) (by exact far_ hw396_0 GW390.out) _).trans (((cell_far (p:=⟨gb390,_,none⟩) (by exact far_ hw396_0 GW390.out) _).trans (((cell_far (p:=⟨gb390,_,none⟩) (by exact far_ hw396_0 GW390.out) _).trans (((cell_far (p:=⟨gb390,_,none⟩) (by exact far_ hw396_0 GW390.out) _).trans (hHeld.2.2.2.2.2.1)))))))),((cell_far (p:=⟨gb390,_,none⟩) (by exact far_ hw396_1 GW390.out) _).trans (((cell_far (p:=⟨gb390,_,none⟩) (by exact far_ hw396_1 GW390.out) _).trans (((cell_far (p:=⟨gb390,_,none⟩) (by exact far_ hw396_1 GW390.out) _).trans (((cell_far (p:=⟨gb390,_,none⟩) (by exact far_ hw396_1 GW390.out) _).trans (hHeld.2.2.2.2.2.2.1)))))))),((cell_far (p:=⟨gb390,_,none⟩) (by exact far_ hw396_2 GW390.out) _).trans (((cell_far (p:=⟨gb390,_,none⟩) (by exact far_ hw396_2 GW390.out) _).trans (((cell_far (p:=⟨gb390,_,none⟩) (by exact far_ hw396_2 GW390.out) _).trans (((cell_far (p:=⟨gb390,_,none⟩) (by exact far_ hw396_2 GW390.out) _).trans (hHeld.2.2.2.2.2.2.2.1)))))))),((cell_far (p:=⟨gb390,_,none⟩) (by exact far_ hw396_3 GW390.out) _).trans (((cell_far (p:=⟨gb390,_,none⟩) (by exact far_ hw396_3 GW390.out) _).trans (((cell_far (p:=⟨gb390,_,none⟩) (by exact far_ hw396_3 GW390.out) _).trans (((cell_far (p:=⟨gb390,_,none⟩) (by exact far_ hw396_3 GW390.out) _).trans (hHeld.2.2.2.2.2.2.2.2.1)))))))),((cell_far (p:=⟨gb390,_,none⟩) (by exact far_ hw396_4 GW390.out) _).trans (((cell_far (p:=⟨gb390,_,none⟩) (by exact far_ hw396_4 GW390.out) _).trans (((cell_far (p:=⟨gb390,_,none⟩) (by exact far_ hw396_4 GW390.out) _).trans (((cell_far (p:=⟨gb390,_,none⟩) (by exact far_ hw396_4 GW390.out) _).trans (hHeld.2.2.2.2.2.2.2.2.2.1)))))))),((cell_far (p:=⟨gb390,_,none⟩) (by exact far_ hw397_0 GW390.out) _).trans (((cell_far (p:=⟨gb390,_,none⟩) (by exact far_ hw397_0 GW390.out) _).trans (((cell_far (p:=⟨gb390,_,none⟩) (by exact far_ hw397_0 GW390.out) _).trans (((cell_far (p:=⟨gb390,_,none⟩) (by exact far_ hw397_0 GW390.out) _).trans (hHeld.2.2.2.2.2.2.2.2.2.2.1)))))))),((cell_far (p:=⟨gb390,_,none⟩) (by exact far_ hw397_1 GW390.out) _).trans (((cell_far (p:=⟨gb390,_,none⟩) (by exact far_ hw397_1 GW390.out) _).trans (((cell_far (p:=⟨gb390,_,none⟩) (by exact far_ hw397_1 GW390.out) _).trans (((cell_far (p:=⟨gb390,_,none⟩) (by exact far_ hw397_1 GW390.out) _).trans (hHeld.2.2.2.2.2.2.2.2.2.2.2.1)))))))),((cell_far (p:=⟨gb390,_,none⟩) (by exact far_ hw397_2 GW390.out) _).trans (((cell_far (p:=⟨gb390,_,none⟩) (by exact far_ hw397_2 GW390.out) _).trans (((cell_far (p:=⟨gb390,_,none⟩) (by exact far_ hw397_2 GW390.out) _).trans (((cell_far (p:=⟨gb390,_,none⟩) (by exact far_ hw397_2 GW390.out) _).trans (hHeld.2.2.2.2.2.2.2.2.2.2.2.2.1)))))))),((cell_far (p:=⟨gb390,_,none⟩) (by exact far_ hw397_3 GW390.out) _).trans (((cell_far (p:=⟨gb390,_,none⟩) (by exact far_ hw397_3 GW390.out) _).trans (((cell_far (p:=⟨gb390,_,none⟩) (by exact far_ hw397_3 GW390.out) _).trans (((cell_far (p:=⟨gb390,_,none⟩) (by exact far_ hw397_3 GW390.out) _).trans (hHeld.2.2.2.2.2.2.2.2.2.2.2.2.2.1)))))))),((cell_far (p:=⟨gb390,_,none⟩) (by exact far_ hw397_4 GW390.out) _).trans (((cell_far (p:=⟨gb390,_,none⟩) (by exact far_ hw397_4 GW390.out) _).trans (((cell_far (p:=⟨gb390,_,none⟩) (by exact far_ hw397_4 GW390.out) _).trans (((cell_far (p:=⟨gb390,_,none⟩) (by exact far_ hw397_4 GW390.out) _).trans (hHeld.2.2.2.2.2.2.2.2.2.2.2.2.2.2.1)))))))),((cell_far (p:=⟨gb390,_,none⟩) (by exact far_ hw398_0 GW390.out) _).trans (((cell_far (p:=⟨gb390,_,none⟩) (by exact far_ hw398_0 GW390.out) _).trans (((cell_far (p:=⟨gb390,_,none⟩) (by exact far_ hw398_0 GW390.out) _).trans (((cell_far (p:=⟨gb390,_,none⟩) (by exact far_ hw398_0 GW390.out) _).trans (hHeld.2.2.2.2.2.2.2.2.2.2.2.2.2.2.2.1)))))))),((cell_far (p:=⟨gb390,_,none⟩) (by exact far_ hw398_1 GW390.out) _).trans (((cell_far (p:=⟨gb390,_,none⟩) (by exact far_ hw398_1 GW390.out) _).trans (((cell_far (p:=⟨gb390,_,none⟩) (by exact far_ hw398_1 GW390.out) _).trans (((cell_far (p:=⟨gb390,_,none⟩) (by exact far_ hw398_1 GW390.out) _).trans (hHeld.2.2.2.2.2.2.2.2.2.2.2.2.2.2.2.2.1)))))))),((cell_far (p:=⟨gb390,_,none⟩) (by exact far_ hw398_2 GW390.out) _).trans (((cell_far (p:=⟨gb390,_,none⟩) (by exact far_ hw398_2 GW390.out) _).trans (((cell_far (p:=⟨gb390,_,none⟩) (by exact far_ hw398_2 GW390.out) _).trans (((cell_far (p:=⟨gb390,_,none⟩) (by exact far_ hw398_2 GW390.out) _).trans (hHeld.2.2.2.2.2.2.2.2.2.2.2.2.2.2.2.2.2.1)))))))),((cell_far (p:=⟨gb390,_,none⟩) (by exact far_ hw398_3 GW390.out) _).trans (((cell_far (p:=⟨gb390,_,none⟩) (by exact far_ hw398_3 GW390.out) _).trans (((cell_far (p:=⟨gb390,_,none⟩) (by exact far_ hw398_3 GW390.out) _).trans (((cell_far (p:=⟨gb390,_,none⟩) (by exact far_ hw398_3 GW390.out) _).trans (hHeld.2.2.2.2.2.2.2.2.2.2.2.2.2.2.2.2.2.2.1)))))))),((cell_far (p:=⟨gb390,_,none⟩) (by exact far_ hw398_4 GW390.out) _).trans (((cell_far (p:=⟨gb390,_,none⟩) (by exact far_ hw398_4 GW390.out) _).trans (((cell_far (p:=⟨gb390,_,none⟩) (by exact far_ hw398_4 GW390.out) _).trans (((cell_far (p:=⟨gb390,_,none⟩) (by exact far_ hw398_4 GW390.out) _).trans (hHeld.2.2.2.2.2.2.2.2.2.2.2.2.2.2.2.2.2.2.2.1)))))))),((cell_far (p:=⟨gb390,_,none⟩) (by exact far_ hw399_0 GW390.out) _).trans (((cell_far (p:=⟨gb390,_,none⟩) (by exact far_ hw399_0 GW390.out) _).trans (((cell_far (p:=⟨gb390,_,none⟩) (by exact far_ hw399_0 GW390.out) _).trans (((cell_far (p:=⟨gb390,_,none⟩) (by exact far_ hw399_0 GW390.out) _).trans (hHeld.2.2.2.2.2.2.2.2.2.2.2.2.2.2.2.2.2.2.2.2.1)))))))),((cell_far (p:=⟨gb390,_,none⟩) (by exact far_ hw399_1 GW390.out) _).trans (((cell_far (p:=⟨gb390,_,none⟩) (by exact far_ hw399_1 GW390.out) _).trans (((cell_far (p:=⟨gb390,_,none⟩) (by exact far_ hw399_1 GW390.out) _).trans (((cell_far (p:=⟨gb390,_,none⟩) (by exact far_ hw399_1 GW390.out) _).trans (hHeld.2.2.2.2.2.2.2.2.2.2.2.2.2.2.2.2.2.2.2.2.2.1)))))))),((cell_far (p:=⟨gb390,_,none⟩) (by exact far_ hw399_2 GW390.out) _).trans (((cell_far (p:=⟨gb390,_,none⟩) (by exact far_ hw399_2 GW390.out) _).trans (((cell_far (p:=⟨gb390,_,none⟩) (by exact far_ hw399_2 GW390.out) _).trans (((cell_far (p:=⟨gb390,_,none⟩) (by exact far_ hw399_2 GW390.out) _).trans (hHeld.2.2.2.2.2.2.2.2.2.2.2.2.2.2.2.2.2.2.2.2.2.2.1)))))))),((cell_far (p:=⟨gb390,_,none⟩) (by exact far_ hw399_3 GW390.out) _).trans (((cell_far (p:=⟨gb390,_,none⟩) (by exact far_ hw399_3 GW390.out) _).trans (((cell_far (p:=⟨gb390,_,none⟩) (by exact far_ hw399_3 GW390.out) _).trans (((cell_far (p:=⟨gb390,_,none⟩) (by exact far_ hw399_3 GW390.out) _).trans (hHeld.2.2.2.2.2.2.2.2.2.2.2.2.2.2.2.2.2.2.2.2.2.2.2.1)))))))),((cell_far (p:=⟨gb390,_,none⟩) (by exact far_ hw399_4 GW390.out) _).trans (((cell_far (p:=⟨gb390,_,none⟩) (by exact far_ hw399_4 GW390.out) _).trans (((cell_far (p:=⟨gb390,_,none⟩) (by exact far_ hw399_4 GW390.out) _).trans (((cell_far (p:=⟨gb390,_,none⟩) (by exact far_ hw399_4 GW390.out) _).trans (hHeld.2.2.2.2.2.2.2.2.2.2.2.2.2.2.2.2.2.2.2.2.2.2.2.2))))))))⟩ (fun hHeld=>?_)
                 clear hK K
                 refine done_ (done_of HT_.out (by kernel_rfl)) ?_
                 try go_wp2
                 go_roundg kj19
                 case measure=>have:=HK1.out;have:=HJ15.out;have:=HJ19.out;omega
                 case rel=>exact ⟨(wrap64 (x19_1+1)),(t401),(t402),(t403),(t404),(by first|rfl|(simp;done)|(simp [*];done)),H',⟨by have:=HK1.out;have:=HJ15.out;have:=HJ19.out;omega⟩,⟨by (with_reducible repeat first|apply bN_|apply bD_|apply bA_);refine blk_far ?_ NB386_390.out _;(with_reducible repeat first|apply bN_|apply bD_|apply bA_);refine blk_far ?_ NB386_390.out _;(with_reducible repeat first|apply bN_|apply bD_|apply bA_);refine blk_far ?_ NB386_390.out _;(with_reducible repeat first|apply bN_|apply bD_|apply bA_);refine blk_far ?_ NB386_390.out _;(with_reducible repeat first|apply bN_|apply bD_|apply bA_);exact BK386.out⟩,⟨by (with_reducible repeat first|apply bN_|apply bD_|apply bA_);refine blk_put (cs:=#[.int .i64 t401,.int .i64 t402,.int .i64 t403,.int .i64 x391003_15]) ?_ 3 _ rfl;(with_reducible repeat first|apply bN_|apply bD_|apply bA_);refine blk_put (cs:=#[.int .i64 t401,.int .i64 t402,.int .i64 x391002_15,.int .i64 x391003_15]) ?_ 2 _ rfl;(with_reducible repeat first|apply bN_|apply bD_|apply bA_);refine blk_put (cs:=#[.int .i64 t401,.int .i64 x391001_15,.int .i64 x391002_15,.int .i64 x391003_15]) ?_ 1 _ rfl;(with_reducible repeat first|apply bN_|apply bD_|apply bA_);refine blk_put (cs:=#[.int .i64 x391000_15,.int .i64 x391001_15,.int .i64 x391002_15,.int .i64 x391003_15]) ?_ 0 _ rfl;(with_reducible repeat first|apply bN_|apply bD_|apply bA_);exact BK390.out⟩,⟨by repeat first|(with_reducible first|exact HB.out|apply lA_|apply lN_|apply lD_|refine lS_ ?_ GE386.out|refine lS_ ?_ GE390.out)|exact HB.out⟩⟩
                rw [if_neg c33] at H
                exact absurd H (by simp)
               rw [if_neg c32] at H
               exact absurd H (by simp)
              rw [if_neg c31] at H
              exact absurd H (by simp)
             rw [if_neg c30] at H
             exact absurd H (by simp)
            replace c28:=Bool.eq_false_iff.mpr c28;subst c28
            have H1:(r18_Color.l0 kj19 l0 t388 (l0.length:Int) (wrap64 (x19_1+1)) x391000_15 x391001_15 x391002_15 x391003_15)=some (r1,r2,r3,r4):=by rw [if_neg (show ¬ (false=true) by decide)] at H;exact H
            clear H;have H:=H1;clear H1;have H':=Aside0.mk H;clear H
            go_wp2
            go_roundg kj19
            case measure=>have:=HK1.out;have:=HJ15.out;have:=HJ19.out;omega
            case rel=>exact ⟨(wrap64 (x19_1+1)),(x391000_15),(x391001_15),(x391002_15),(x391003_15),(by first|rfl|(simp;done)|(simp [*];done)),H',⟨by have:=HK1.out;have:=HJ15.out;have:=HJ19.out;omega⟩,⟨by (with_reducible repeat first|apply bN_|apply bD_|apply bA_);exact BK386.out⟩,⟨by (with_reducible repeat first|apply bN_|apply bD_|apply bA_);exact BK390.out⟩,⟨by repeat first|(with_reducible first|exact HB.out|apply lA_|apply lN_|apply lD_|refine lS_ ?_ GE386.out|refine lS_ ?_ GE390.out)|exact HB.out⟩⟩
       rw [if_neg c15] at H
       exact absurd H (by simp)
      rw [if_neg c14] at H
      exact absurd H (by simp)
     rw [if_neg c13] at H;have c13b0:=decide_eq_false c13;clear c13;by_cases c42:x391003_1=0
     ·rw [if_pos c42] at H
      have c42b0:=beq_iff_eq.mpr c42;have c42b1:=bne_eq_false_iff_eq.mpr c42;clear c42;simp only [Option.some.injEq,Prod.mk.injEq] at H;obtain ⟨rfl,rfl,rfl,rfl⟩:=H;have hnb43:=NB390_386.out;have hnc43:=NB386_390.out;have hcz44_0:wr.cell? ⟨gb390,0,none⟩=some (.int .i64 x391000_1):=(blk_cell BK390.out 0).trans rfl;have hcz44_1:wr.cell? ⟨gb390,1,none⟩=some (.int .i64 x391001_1):=(blk_cell BK390.out 1).trans rfl;have hcz44_2:wr.cell? ⟨gb390,2,none⟩=some (.int .i64 x391002_1):=(blk_cell BK390.out 2).trans rfl;have hcz44_3:wr.cell? ⟨gb390,3,none⟩=some (.int .i64 x391003_1):=(blk_cell BK390.out 3).trans rfl;have hfz44_0:=blk_frozen BK390.out 0;have hfz44_1:=blk_frozen BK390.out 1;have hfz44_2:=blk_frozen BK390.out 2;have hfz44_3:=blk_frozen BK390.out 3;have hcz45_0:wr.cell? ⟨gb386,0,none⟩=some (.int .i64 0):=(blk_cell BK386.out 0).trans rfl;have hcz45_1:wr.cell? ⟨gb386,1,none⟩=some (.int .i64 0):=(blk_cell BK386.out 1).trans rfl;have hcz45_2:wr.cell? ⟨gb386,2,none⟩=some (.int .i64 0):=(blk_cell BK386.out 2).trans rfl;have hcz45_3:wr.cell? ⟨gb386,3,none⟩=some (.int .i64 0):=(blk_cell BK386.out 3).trans rfl;have hfz45_0:=blk_frozen BK386.out 0;have hfz45_1:=blk_frozen BK386.out 1;have hfz45_2:=blk_frozen BK386.out 2;have hfz45_3:=blk_frozen BK386.out 3
      go_wp2
      refine bodyPost_ret (results_cell_row rfl _ _ gb386 38 #[.int .i64 0,.int .i64 0,.int .i64 0,.int .i64 0] (0,0) _ rfl (by (with_reducible repeat first|apply bN_|apply bD_|apply bA_);refine blk_put (cs:=#[.int .i64 0,.int .i64 0,.int .i64 0,.int .i64 0]) ?_ 3 _ rfl;(with_reducible repeat first|apply bN_|apply bD_|apply bA_);refine blk_put (cs:=#[.int .i64 0,.int .i64 0,.int .i64 0,.int .i64 0]) ?_ 2 _ rfl;(with_reducible repeat first|apply bN_|apply bD_|apply bA_);refine blk_put (cs:=#[.int .i64 0,.int .i64 0,.int .i64 0,.int .i64 0]) ?_ 1 _ rfl;(with_reducible repeat first|apply bN_|apply bD_|apply bA_);refine blk_put (cs:=#[.int .i64 0,.int .i64 0,.int .i64 0,.int .i64 0]) ?_ 0 _ rfl;(with_reducible repeat first|apply bN_|apply bD_|apply bA_);exact BK386.out) Try.underlying38 rfl (by kernel_rfl)) rfl ?_
      exact ⟨by first|rfl|(simp [errW_none,errW_some] <;> rfl)|(simp [*,errW_none,errW_some] <;> rfl),by repeat first|(with_reducible first|exact HB.out|apply lA_|apply lN_|apply lD_|refine lS_ ?_ GE386.out|refine lS_ ?_ GE390.out)|exact HB.out⟩
     rw [if_neg c42] at H;have c42b0:(x391003_1==0)=false:=beq_eq_false_iff_ne.mpr c42;have c42b1:(x391003_1 != 0)=true:=bne_iff_ne.mpr c42;simp only [Option.some.injEq,Prod.mk.injEq] at H;obtain ⟨rfl,rfl,rfl,rfl⟩:=H;have hnb46:=NB390_386.out;have hnc46:=NB386_390.out;have hcz47_0:wr.cell? ⟨gb390,0,none⟩=some (.int .i64 x391000_1):=(blk_cell BK390.out 0).trans rfl;have hcz47_1:wr.cell? ⟨gb390,1,none⟩=some (.int .i64 x391001_1):=(blk_cell BK390.out 1).trans rfl;have hcz47_2:wr.cell? ⟨gb390,2,none⟩=some (.int .i64 x391002_1):=(blk_cell BK390.out 2).trans rfl;have hcz47_3:wr.cell? ⟨gb390,3,none⟩=some (.int .i64 x391003_1):=(blk_cell BK390.out 3).trans rfl;have hfz47_0:=blk_frozen BK390.out 0;have hfz47_1:=blk_frozen BK390.out 1;have hfz47_2:=blk_frozen BK390.out 2;have hfz47_3:=blk_frozen BK390.out 3;have hcz48_0:wr.cell? ⟨gb386,0,none⟩=some (.int .i64 0):=(blk_cell BK386.out 0).trans rfl;have hcz48_1:wr.cell? ⟨gb386,1,none⟩=some (.int .i64 0):=(blk_cell BK386.out 1).trans rfl;have hcz48_2:wr.cell? ⟨gb386,2,none⟩=some (.int .i64 0):=(blk_cell BK386.out 2).trans rfl;have hcz48_3:wr.cell? ⟨gb386,3,none⟩=some (.int .i64 0):=(blk_cell BK386.out 3).trans rfl;have hfz48_0:=blk_frozen BK386.out 0;have hfz48_1:=blk_frozen BK386.out 1;have hfz48_2:=blk_frozen BK386.out 2;have hfz48_3:=blk_frozen BK386.out 3
     go_wp2
     refine bodyPost_ret (results_cell_row rfl _ _ gb386 38 #[.int .i64 x391000_1,.int .i64 x391001_1,.int .i64 x391002_1,.int .i64 x391003_1] (0,0) _ rfl (by (with_reducible repeat first|apply bN_|apply bD_|apply bA_);refine blk_put (cs:=#[.int .i64 x391000_1,.int .i64 x391001_1,.int .i64 x391002_1,.int .i64 0]) ?_ 3 _ rfl;(with_reducible repeat first|apply bN_|apply bD_|apply bA_);refine blk_put (cs:=#[.int .i64 x391000_1,.int .i64 x391001_1,.int .i64 0,.int .i64 0]) ?_ 2 _ rfl;(with_reducible repeat first|apply bN_|apply bD_|apply bA_);refine blk_put (cs:=#[.int .i64 x391000_1,.int .i64 0,.int .i64 0,.int .i64 0]) ?_ 1 _ rfl;(with_reducible repeat first|apply bN_|apply bD_|apply bA_);refine blk_put (cs:=#[.int .i64 0,.int .i64 0,.int .i64 0,.int .i64 0]) ?_ 0 _ rfl;(with_reducible repeat first|apply bN_|apply bD_|apply bA_);exact BK386.out) Try.underlying38 rfl (by kernel_rfl)) rfl ?_
     exact ⟨by first|rfl|(simp [errW_none,errW_some] <;> rfl)|(simp [*,errW_none,errW_some] <;> rfl),by repeat first|(with_reducible first|exact HB.out|apply lA_|apply lN_|apply lD_|refine lS_ ?_ GE386.out|refine lS_ ?_ GE390.out)|exact HB.out⟩
  rw [if_neg c6] at H
  exact absurd H (by simp)
 rw [if_neg c4] at H;have c4b0:(t387==0)=false:=beq_eq_false_iff_ne.mpr c4;have c4b1:(t387 != 0)=true:=bne_iff_ne.mpr c4;simp only [Option.some.injEq,Prod.mk.injEq] at H;obtain ⟨rfl,rfl,rfl,rfl⟩:=H
 go_enter Try.func18,Try.ntmps18
 go_wp2_with (first|((with_reducible refine gate_dst (N:=4) rfl ?_);refine box_event ?hg (N:=4) ?hd (cs:=#[.int .i64 0,.int .i64 0,.int .i64 0,.int .i64 0]) (t:=38) ?hr ?_;(case hd=>rfl);(case hg=>rfl);(case hr=>first|(go_simp;done)|(go_simp;rfl));intro gb386 hg w49 hbox hb;have n0_:=Aside0.mk (below_step (by repeat first|(with_reducible first|exact HB.out|apply lA_|apply lN_|apply lD_)|exact HB.out) hb);have n1_:=Aside0.mk (hbox);have n2_:=Aside0.mk ((by rw [hg];exact (below_size (by repeat first|(with_reducible first|exact HB.out|apply lA_|apply lN_|apply lD_)|exact HB.out)):w.heap.size≤gb386));have n3_:=Aside0.mk ((by rw [hg];exact (below_size (by repeat first|(with_reducible first|exact HB.out|apply lA_|apply lN_|apply lD_)|exact HB.out)):w.heap.size≤gb386));clear HB;have HB:=n0_;have BK386:=n1_;have GW386:=n2_;have GE386:=n3_;clear n0_ n1_ n2_ n3_;clear hb hbox hg)|((with_reducible refine gate_callee (f:=22) rfl ?_);refine goesL_ (some 8) rfl rfl Try.func22 (by kernel_rfl) rfl #[.slice A0 l0.length c0] rfl (by (try simp only [mA_,mC_,mN_]);first|done|rfl|(simp only [dL_,kL_];rfl)) ?_;(with_reducible refine (r18_Stops.calls k _ _ l0 t387 _ ?side1 ?side2 A3.out).mono ?_);(case side1=>repeat (first|exact (Kd.C_below HR0.out HB.out)|(with_reducible refine Kd.C_alloc ?_ _)|(with_reducible refine Kd.C_drewN ?_ _)|(with_reducible refine Kd.C_drew ?_)));(case side2=>exact HC0.out);rintro e w50 ⟨rfl,hb⟩;refine ⟨_,rfl,?_⟩;have n0_:=Aside0.mk (blk_below (by (with_reducible repeat first|apply bN_|apply bD_|apply bA_);exact BK386.out) hb);have n1_:=Aside0.mk (below_step (by repeat first|(with_reducible first|exact HB.out|apply lA_|apply lN_|apply lD_|refine lS_ ?_ GE386.out)|exact HB.out) hb);clear BK386;clear HB;have BK386:=n0_;have HB:=n1_;clear n0_ n1_;(try clear hb);(try clear hb2);(try clear hk);(try clear hi);have hcz51_0:w50.cell? ⟨gb386,0,none⟩=some (.int .i64 0):=(blk_cell BK386.out 0).trans rfl;have hcz51_1:w50.cell? ⟨gb386,1,none⟩=some (.int .i64 0):=(blk_cell BK386.out 1).trans rfl;have hcz51_2:w50.cell? ⟨gb386,2,none⟩=some (.int .i64 0):=(blk_cell BK386.out 2).trans rfl;have hcz51_3:w50.cell? ⟨gb386,3,none⟩=some (.int .i64 0):=(blk_cell BK386.out 3).trans rfl;have hfz51_0:=blk_frozen BK386.out 0;have hfz51_1:=blk_frozen BK386.out 1;have hfz51_2:=blk_frozen BK386.out 2;have hfz51_3:=blk_frozen BK386.out 3))
 refine bodyPost_ret (results_cell_row rfl _ _ gb386 38 #[.int .i64 0,.int .i64 0,.int .i64 0,.int .i64 0] (0,0) _ rfl (by (with_reducible repeat first|apply bN_|apply bD_|apply bA_);refine blk_put (cs:=#[.int .i64 0,.int .i64 0,.int .i64 0,.int .i64 0]) ?_ 3 _ rfl;(with_reducible repeat first|apply bN_|apply bD_|apply bA_);refine blk_put (cs:=#[.int .i64 0,.int .i64 0,.int .i64 0,.int .i64 0]) ?_ 2 _ rfl;(with_reducible repeat first|apply bN_|apply bD_|apply bA_);refine blk_put (cs:=#[.int .i64 0,.int .i64 0,.int .i64 0,.int .i64 0]) ?_ 1 _ rfl;(with_reducible repeat first|apply bN_|apply bD_|apply bA_);refine blk_put (cs:=#[.int .i64 0,.int .i64 0,.int .i64 0,.int .i64 0]) ?_ 0 _ rfl;(with_reducible repeat first|apply bN_|apply bD_|apply bA_);exact BK386.out) Try.underlying38 rfl (by kernel_rfl)) rfl ?_
 exact ⟨by first|rfl|(simp [errW_none,errW_some] <;> rfl)|(simp [*,errW_none,errW_some] <;> rfl),by repeat first|(with_reducible first|exact HB.out|apply lA_|apply lN_|apply lD_|refine lS_ ?_ GE386.out)|exact HB.out⟩


end Go.Proofs.Ytmlcobnidfkhfaa.Q
