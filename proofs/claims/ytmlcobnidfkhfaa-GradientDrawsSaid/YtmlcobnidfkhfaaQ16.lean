/- Each Go function of the law as a Lean function, with the proof that its call comes to just that, for every input; written by hp.py, a program of this session over the kit own print of the translation. -/
import Derived.Test.YtmlcobnidfkhfaaQ0
import Derived.Test.YtmlcobnidfkhfaaQ2
import Derived.Test.YtmlcobnidfkhfaaQ15
namespace Go.Proofs.Ytmlcobnidfkhfaa.Q
open Go.RowKit Go.Proofs.YtmlcobnidfkhfaaW.PrintWords Go.Proofs.YtmlcobnidfkhfaaW.PrintLast Go.Proofs.YtmlcobnidfkhfaaW.PrintMore
attribute [local go_sem] max2_int min2_int max_two min_two max_three min_three max_four min_four   -- for this text's walks alone
set_option linter.unusedVariables false
set_option linter.unusedSimpArgs false
open Go.Proofs.Ytmlcobnidfkhfaa.Clo Go.Proofs.Ytmlcobnidfkhfaa.Mk0

/-! ### r06_Mix: function 33 -/
def r06_Mix.f (k:Nat) (a0_0:Int) (a0_1:Int) (a0_2:Int) (a0_3:Int) (a1_0:Int) (a1_1:Int) (a1_2:Int) (a1_3:Int) (a2:Int):Option (Int × Int × Int × Int):=(r06_Limit.f a0_0 a0_1 a0_2 a0_3).bind fun bt373=>((r06_Limit.f a1_0 a1_1 a1_2 a1_3).bind fun bt377=>((r06_U.f a2).bind fun t381=>((r01_Div.f k (wrap64 ((wrap64 (bt373.2.2.2*(wrap64 (65535-t381))))+(wrap64 (bt377.2.2.2*t381)))) 65535).bind fun t382=>(if t382=0 then (some (0,0,0,0)) else ((r01_Div.f k (wrap64 ((wrap64 (bt373.1*(wrap64 (bt373.2.2.2*(wrap64 (65535-t381))))))+(wrap64 (bt377.1*(wrap64 (bt377.2.2.2*t381)))))) (wrap64 ((wrap64 (bt373.2.2.2*(wrap64 (65535-t381))))+(wrap64 (bt377.2.2.2*t381))))).bind fun t383=>((r01_Div.f k (wrap64 ((wrap64 (bt373.2.1*(wrap64 (bt373.2.2.2*(wrap64 (65535-t381))))))+(wrap64 (bt377.2.1*(wrap64 (bt377.2.2.2*t381)))))) (wrap64 ((wrap64 (bt373.2.2.2*(wrap64 (65535-t381))))+(wrap64 (bt377.2.2.2*t381))))).bind fun t384=>((r01_Div.f k (wrap64 ((wrap64 (bt373.2.2.1*(wrap64 (bt373.2.2.2*(wrap64 (65535-t381))))))+(wrap64 (bt377.2.2.1*(wrap64 (bt377.2.2.2*t381)))))) (wrap64 ((wrap64 (bt373.2.2.2*(wrap64 (65535-t381))))+(wrap64 (bt377.2.2.2*t381))))).bind fun t385=>(some (t383,t384,t385,t382)))))))))
theorem r06_Mix.mono:∀ a0 a1 a2 a3 a4 a5 a6 a7 a8 k,LeO (r06_Mix.f k a0 a1 a2 a3 a4 a5 a6 a7 a8) (r06_Mix.f (k+1) a0 a1 a2 a3 a4 a5 a6 a7 a8):=by
 intro a0 a1 a2 a3 a4 a5 a6 a7 a8 k
 unfold r06_Mix.f
 repeat' first
   | (with_reducible exact r01_Div.mono _ _ _)
   | (with_reducible exact LeO.refl _)
   | (with_reducible exact LeO.none _)
   | (with_reducible refine LeO.ite ?_ ?_)
   | (with_reducible refine LeO.bind ?_ (fun _=>?_))
def r06_Mix.T1:Bool × List (List Nat × List Nat):=(true,[([],[]),([0],[0]),([],[]),([2,1],[2]),([],[]),([4,3],[4]),([1,5,0,1],[1]),([3,6,0,1,2,3,6],[3]),([5,7,0,1,2,3,4,5,6,7],[4,5])])
def r06_Mix.B1:List Nat:=[0,1,0,7,0,31,63,127,255]
theorem r06_Mix.tab1:rtab .any (opsOf Try.f33 1)=r06_Mix.T1:=by kernel_rfl
theorem r06_Mix.bits1:waitsOk r06_Mix.T1.2 r06_Mix.B1=true:=by kernel_rfl
def r06_Mix.T2:Bool × List (List Nat × List Nat):=(true,[([],[]),([0],[0]),([],[]),([2],[2]),([1,3],[1,3]),([],[]),([5],[5]),([],[]),([6,7],[6,7]),([4,0,1,2,3,4],[4]),([8,9,0,1,2,3,4,5,6,7,8,9],[8])])
def r06_Mix.B2:List Nat:=[0,1,0,4,15,0,32,0,224,31,1023]
theorem r06_Mix.tab2:rtab .any (opsOf Try.f33 2)=r06_Mix.T2:=by kernel_rfl
theorem r06_Mix.bits2:waitsOk r06_Mix.T2.2 r06_Mix.B2=true:=by kernel_rfl
def r06_Mix.T7:Bool × List (List Nat × List Nat):=(true,[([],[]),([0],[0]),([],[]),([1,2],[1,2]),([],[]),([4],[4]),([],[]),([5,6],[5,6]),([3,7],[3,7]),([],[]),([8,9],[8,9]),([],[]),([11],[11]),([],[]),([12,13],[12,13]),([],[]),([15],[15]),([],[]),([16,17],[16,17]),([14,18],[14,18]),([],[]),([19,20,10],[19,20]),([],[]),([22],[22]),([],[]),([23,24],[23,24]),([],[]),([26],[26]),([],[]),([27,28],[27,28]),([25,29],[25,29]),([],[]),([30,31,21],[30,31]),([],[]),([10,21,32,33],[10,21,32,33]),([34,32,0,1,2,3,4,5,6,7,8,9,10,11,12,13,14,15,16,17,18,19,20,21,22,23,24,25,26,27,28,29,30,31,32,33,34],[34])])
def r06_Mix.B7:List Nat:=[0,1,0,7,0,16,0,112,255,0,1023,0,2048,0,14336,0,32768,0,229376,522240,0,2097151,0,4194304,0,29360128,0,67108864,0,469762048,1069547520,0,4294967295,0,17179869183,34359738367]
theorem r06_Mix.tab7:rtab .any (opsOf Try.f33 7)=r06_Mix.T7:=by kernel_rfl
theorem r06_Mix.bits7:waitsOk r06_Mix.T7.2 r06_Mix.B7=true:=by kernel_rfl
set_option maxHeartbeats 8000000 in
set_option maxRecDepth 100000 in
theorem r06_Mix.calls (k:Nat) (a0_0:Int) (a0_1:Int) (a0_2:Int) (a0_3:Int) (a1_0:Int) (a1_1:Int) (a1_2:Int) (a1_3:Int) (a2:Int) (r1:Int) (r2:Int) (r3:Int) (r4:Int) (w:World) (h:r06_Mix.f k a0_0 a0_1 a0_2 a0_3 a1_0 a1_1 a1_2 a1_3 a2=some (r1,r2,r3,r4)) :
  Calls Try.prog 33 #[.agg #[.int .i64 a0_0,.int .i64 a0_1,.int .i64 a0_2,.int .i64 a0_3],.agg #[.int .i64 a1_0,.int .i64 a1_1,.int .i64 a1_2,.int .i64 a1_3],.int .i64 a2] w fun e w'=>e = .returned (.agg #[.int .i64 r1,.int .i64 r2,.int .i64 r3,.int .i64 r4])∧Below w.heap.size w w':=by
 have hu38:=Try.underlying38;have HB:=Aside0.mk (Below.refl w.heap.size w)
 have H:((r06_Limit.f a0_0 a0_1 a0_2 a0_3).bind fun bt373=>((r06_Limit.f a1_0 a1_1 a1_2 a1_3).bind fun bt377=>((r06_U.f a2).bind fun t381=>((r01_Div.f k (wrap64 ((wrap64 (bt373.2.2.2*(wrap64 (65535-t381))))+(wrap64 (bt377.2.2.2*t381)))) 65535).bind fun t382=>(if t382=0 then (some (0,0,0,0)) else ((r01_Div.f k (wrap64 ((wrap64 (bt373.1*(wrap64 (bt373.2.2.2*(wrap64 (65535-t381))))))+(wrap64 (bt377.1*(wrap64 (bt377.2.2.2*t381)))))) (wrap64 ((wrap64 (bt373.2.2.2*(wrap64 (65535-t381))))+(wrap64 (bt377.2.2.2*t381))))).bind fun t383=>((r01_Div.f k (wrap64 ((wrap64 (bt373.2.1*(wrap64 (bt373.2.2.2*(wrap64 (65535-t381))))))+(wrap64 (bt377.2.1*(wrap64 (bt377.2.2.2*t381)))))) (wrap64 ((wrap64 (bt373.2.2.2*(wrap64 (65535-t381))))+(wrap64 (bt377.2.2.2*t381))))).bind fun t384=>((r01_Div.f k (wrap64 ((wrap64 (bt373.2.2.1*(wrap64 (bt373.2.2.2*(wrap64 (65535-t381))))))+(wrap64 (bt377.2.2.1*(wrap64 (bt377.2.2.2*t381)))))) (wrap64 ((wrap64 (bt373.2.2.2*(wrap64 (65535-t381))))+(wrap64 (bt377.2.2.2*t381))))).bind fun t385=>(some (t383,t384,t385,t382))))))))))=some (r1,r2,r3,r4):=h
 clear h;replace H:=Option.bind_eq_some_iff.mp H;obtain ⟨⟨t373,t374,t375,t376⟩,A40,H⟩:=H
 replace H:((r06_Limit.f a1_0 a1_1 a1_2 a1_3).bind fun bt377=>((r06_U.f a2).bind fun t381=>((r01_Div.f k (wrap64 ((wrap64 (t376*(wrap64 (65535-t381))))+(wrap64 (bt377.2.2.2*t381)))) 65535).bind fun t382=>(if t382=0 then (some (0,0,0,0)) else ((r01_Div.f k (wrap64 ((wrap64 (t373*(wrap64 (t376*(wrap64 (65535-t381))))))+(wrap64 (bt377.1*(wrap64 (bt377.2.2.2*t381)))))) (wrap64 ((wrap64 (t376*(wrap64 (65535-t381))))+(wrap64 (bt377.2.2.2*t381))))).bind fun t383=>((r01_Div.f k (wrap64 ((wrap64 (t374*(wrap64 (t376*(wrap64 (65535-t381))))))+(wrap64 (bt377.2.1*(wrap64 (bt377.2.2.2*t381)))))) (wrap64 ((wrap64 (t376*(wrap64 (65535-t381))))+(wrap64 (bt377.2.2.2*t381))))).bind fun t384=>((r01_Div.f k (wrap64 ((wrap64 (t375*(wrap64 (t376*(wrap64 (65535-t381))))))+(wrap64 (bt377.2.2.1*(wrap64 (bt377.2.2.2*t381)))))) (wrap64 ((wrap64 (t376*(wrap64 (65535-t381))))+(wrap64 (bt377.2.2.2*t381))))).bind fun t385=>(some (t383,t384,t385,t382)))))))))=some (r1,r2,r3,r4):=H
 have A4:=Aside0.mk A40;clear A40;replace H:=Option.bind_eq_some_iff.mp H;obtain ⟨⟨t377,t378,t379,t380⟩,A50,H⟩:=H
 replace H:((r06_U.f a2).bind fun t381=>((r01_Div.f k (wrap64 ((wrap64 (t376*(wrap64 (65535-t381))))+(wrap64 (t380*t381)))) 65535).bind fun t382=>(if t382=0 then (some (0,0,0,0)) else ((r01_Div.f k (wrap64 ((wrap64 (t373*(wrap64 (t376*(wrap64 (65535-t381))))))+(wrap64 (t377*(wrap64 (t380*t381)))))) (wrap64 ((wrap64 (t376*(wrap64 (65535-t381))))+(wrap64 (t380*t381))))).bind fun t383=>((r01_Div.f k (wrap64 ((wrap64 (t374*(wrap64 (t376*(wrap64 (65535-t381))))))+(wrap64 (t378*(wrap64 (t380*t381)))))) (wrap64 ((wrap64 (t376*(wrap64 (65535-t381))))+(wrap64 (t380*t381))))).bind fun t384=>((r01_Div.f k (wrap64 ((wrap64 (t375*(wrap64 (t376*(wrap64 (65535-t381))))))+(wrap64 (t379*(wrap64 (t380*t381)))))) (wrap64 ((wrap64 (t376*(wrap64 (65535-t381))))+(wrap64 (t380*t381))))).bind fun t385=>(some (t383,t384,t385,t382))))))))=some (r1,r2,r3,r4):=H
 have A5:=Aside0.mk A50;clear A50;replace H:=Option.bind_eq_some_iff.mp H;obtain ⟨t381,A60,H⟩:=H
 replace H:((r01_Div.f k (wrap64 ((wrap64 (t376*(wrap64 (65535-t381))))+(wrap64 (t380*t381)))) 65535).bind fun t382=>(if t382=0 then (some (0,0,0,0)) else ((r01_Div.f k (wrap64 ((wrap64 (t373*(wrap64 (t376*(wrap64 (65535-t381))))))+(wrap64 (t377*(wrap64 (t380*t381)))))) (wrap64 ((wrap64 (t376*(wrap64 (65535-t381))))+(wrap64 (t380*t381))))).bind fun t383=>((r01_Div.f k (wrap64 ((wrap64 (t374*(wrap64 (t376*(wrap64 (65535-t381))))))+(wrap64 (t378*(wrap64 (t380*t381)))))) (wrap64 ((wrap64 (t376*(wrap64 (65535-t381))))+(wrap64 (t380*t381))))).bind fun t384=>((r01_Div.f k (wrap64 ((wrap64 (t375*(wrap64 (t376*(wrap64 (65535-t381))))))+(wrap64 (t379*(wrap64 (t380*t381)))))) (wrap64 ((wrap64 (t376*(wrap64 (65535-t381))))+(wrap64 (t380*t381))))).bind fun t385=>(some (t383,t384,t385,t382)))))))=some (r1,r2,r3,r4):=H
 have A6:=Aside0.mk A60;clear A60;replace H:=Option.bind_eq_some_iff.mp H;obtain ⟨t382,A70,H⟩:=H
 replace H:(if t382=0 then (some (0,0,0,0)) else ((r01_Div.f k (wrap64 ((wrap64 (t373*(wrap64 (t376*(wrap64 (65535-t381))))))+(wrap64 (t377*(wrap64 (t380*t381)))))) (wrap64 ((wrap64 (t376*(wrap64 (65535-t381))))+(wrap64 (t380*t381))))).bind fun t383=>((r01_Div.f k (wrap64 ((wrap64 (t374*(wrap64 (t376*(wrap64 (65535-t381))))))+(wrap64 (t378*(wrap64 (t380*t381)))))) (wrap64 ((wrap64 (t376*(wrap64 (65535-t381))))+(wrap64 (t380*t381))))).bind fun t384=>((r01_Div.f k (wrap64 ((wrap64 (t375*(wrap64 (t376*(wrap64 (65535-t381))))))+(wrap64 (t379*(wrap64 (t380*t381)))))) (wrap64 ((wrap64 (t376*(wrap64 (65535-t381))))+(wrap64 (t380*t381))))).bind fun t385=>(some (t383,t384,t385,t382))))))=some (r1,r2,r3,r4):=H
 have A7:=Aside0.mk A70;clear A70;by_cases c8:t382=0
 ·rw [if_pos c8] at H
  have c8b0:=beq_iff_eq.mpr c8;have c8b1:=bne_eq_false_iff_eq.mpr c8;clear c8;simp only [Option.some.injEq,Prod.mk.injEq] at H;obtain ⟨rfl,rfl,rfl,rfl⟩:=H
  go_enter Try.func33,Try.ntmps33
  try go_wp2_with (first|((with_reducible refine gate_dst (N:=3) rfl ?_);refine box_event ?hg (N:=3) ?hd (cs:=#[.int .i64 a0_0,.int .i64 a0_1,.int .i64 a0_2,.int .i64 a0_3]) (t:=38) ?hr ?_;(case hd=>rfl);(case hg=>rfl);(case hr=>first|(go_simp;done)|(go_simp;rfl));intro gb370 hg w9 hbox hb;have n0_:=Aside0.mk (below_step (by repeat first|(with_reducible first|exact HB.out|apply lA_|apply lN_|apply lD_)|exact HB.out) hb);have n1_:=Aside0.mk (hbox);have n2_:=Aside0.mk ((by rw [hg];exact (below_size (by repeat first|(with_reducible first|exact HB.out|apply lA_|apply lN_|apply lD_)|exact HB.out)):w.heap.size≤gb370));have n3_:=Aside0.mk ((by rw [hg];exact (below_size (by repeat first|(with_reducible first|exact HB.out|apply lA_|apply lN_|apply lD_)|exact HB.out)):w.heap.size≤gb370));clear HB;have HB:=n0_;have BK370:=n1_;have GW370:=n2_;have GE370:=n3_;clear n0_ n1_ n2_ n3_;clear hb hbox hg)|((with_reducible refine gate_dst (N:=4) rfl ?_);refine box_event ?hg (N:=4) ?hd (cs:=#[.int .i64 a1_0,.int .i64 a1_1,.int .i64 a1_2,.int .i64 a1_3]) (t:=38) ?hr ?_;(case hd=>rfl);(case hg=>rfl);(case hr=>first|(go_simp;done)|(go_simp;rfl));intro gb371 hg w10 hbox hb;have n0_:=Aside0.mk (blk_below (by (with_reducible repeat first|apply bN_|apply bD_|apply bA_);exact BK370.out) hb);have n1_:=Aside0.mk (below_step (by repeat first|(with_reducible first|exact HB.out|apply lA_|apply lN_|apply lD_|refine lS_ ?_ GE370.out)|exact HB.out) hb);have n2_:=Aside0.mk (hbox);have n3_:=Aside0.mk ((by rw [hg];exact (below_size (by repeat first|(with_reducible first|exact HB.out|apply lA_|apply lN_|apply lD_|refine lS_ ?_ GE370.out)|exact HB.out)):w.heap.size≤gb371));have n4_:=Aside0.mk ((by rw [hg];exact (below_size (by repeat first|(with_reducible first|exact HB.out|apply lA_|apply lN_|apply lD_|refine lS_ ?_ GE370.out)|exact HB.out)):w.heap.size≤gb371));have n5_:=Aside0.mk ((by rw [hg];exact Nat.ne_of_lt (blk_lt (g:=gb370) (o:=.cells #[.int .i64 a0_0,.int .i64 a0_1,.int .i64 a0_2,.int .i64 a0_3] 38 (0,0)) (by (with_reducible repeat first|apply bN_|apply bD_|apply bA_);exact BK370.out)):gb370 ≠ gb371));have n6_:=Aside0.mk ((by rw [hg];exact Nat.ne_of_gt (blk_lt (g:=gb370) (o:=.cells #[.int .i64 a0_0,.int .i64 a0_1,.int .i64 a0_2,.int .i64 a0_3] 38 (0,0)) (by (with_reducible repeat first|apply bN_|apply bD_|apply bA_);exact BK370.out)):gb371 ≠ gb370));clear BK370;clear HB;have BK370:=n0_;have HB:=n1_;have BK371:=n2_;have GW371:=n3_;have GE371:=n4_;have NB370_371:=n5_;have NB371_370:=n6_;clear n0_ n1_ n2_ n3_ n4_ n5_ n6_;clear hb hbox hg)|((with_reducible refine gate_dst (N:=6) rfl ?_);refine box_event ?hg (N:=6) ?hd (cs:=#[.int .i64 0,.int .i64 0,.int .i64 0,.int .i64 0]) (t:=38) ?hr ?_;(case hd=>rfl);(case hg=>rfl);(case hr=>first|(go_simp;done)|(go_simp;rfl));intro gb372 hg w11 hbox hb;have n0_:=Aside0.mk (blk_below (by (with_reducible repeat first|apply bN_|apply bD_|apply bA_);exact BK370.out) hb);have n1_:=Aside0.mk (blk_below (by (with_reducible repeat first|apply bN_|apply bD_|apply bA_);exact BK371.out) hb);have n2_:=Aside0.mk (below_step (by repeat first|(with_reducible first|exact HB.out|apply lA_|apply lN_|apply lD_|refine lS_ ?_ GE370.out|refine lS_ ?_ GE371.out)|exact HB.out) hb);have n3_:=Aside0.mk (hbox);have n4_:=Aside0.mk ((by rw [hg];exact (below_size (by repeat first|(with_reducible first|exact HB.out|apply lA_|apply lN_|apply lD_|refine lS_ ?_ GE370.out|refine lS_ ?_ GE371.out)|exact HB.out)):w.heap.size≤gb372));have n5_:=Aside0.mk ((by rw [hg];exact (below_size (by repeat first|(with_reducible first|exact HB.out|apply lA_|apply lN_|apply lD_|refine lS_ ?_ GE370.out|refine lS_ ?_ GE371.out)|exact HB.out)):w.heap.size≤gb372));have n6_:=Aside0.mk ((by rw [hg];exact Nat.ne_of_lt (blk_lt (g:=gb370) (o:=.cells #[.int .i64 a0_0,.int .i64 a0_1,.int .i64 a0_2,.int .i64 a0_3] 38 (0,0)) (by (with_reducible repeat first|apply bN_|apply bD_|apply bA_);exact BK370.out)):gb370 ≠ gb372));have n7_:=Aside0.mk ((by rw [hg];exact Nat.ne_of_gt (blk_lt (g:=gb370) (o:=.cells #[.int .i64 a0_0,.int .i64 a0_1,.int .i64 a0_2,.int .i64 a0_3] 38 (0,0)) (by (with_reducible repeat first|apply bN_|apply bD_|apply bA_);exact BK370.out)):gb372 ≠ gb370));have n8_:=Aside0.mk ((by rw [hg];exact Nat.ne_of_lt (blk_lt (g:=gb371) (o:=.cells #[.int .i64 a1_0,.int .i64 a1_1,.int .i64 a1_2,.int .i64 a1_3] 38 (0,0)) (by (with_reducible repeat first|apply bN_|apply bD_|apply bA_);exact BK371.out)):gb371 ≠ gb372));have n9_:=Aside0.mk ((by rw [hg];exact Nat.ne_of_gt (blk_lt (g:=gb371) (o:=.cells #[.int .i64 a1_0,.int .i64 a1_1,.int .i64 a1_2,.int .i64 a1_3] 38 (0,0)) (by (with_reducible repeat first|apply bN_|apply bD_|apply bA_);exact BK371.out)):gb372 ≠ gb371));clear BK370;clear BK371;clear HB;have BK370:=n0_;have BK371:=n1_;have HB:=n2_;have BK372:=n3_;have GW372:=n4_;have GE372:=n5_;have NB370_372:=n6_;have NB372_370:=n7_;have NB371_372:=n8_;have NB372_371:=n9_;clear n0_ n1_ n2_ n3_ n4_ n5_ n6_ n7_ n8_ n9_;clear hb hbox hg))
  have n0_:=Aside0.mk (blk_drew BK370.out);have n1_:=Aside0.mk (blk_drew BK371.out);have n2_:=Aside0.mk (blk_drew BK372.out);have n3_:=Aside0.mk (below_drew1 HB.out);clear BK370;clear BK371;clear BK372;clear HB;have BK370:=n0_;have BK371:=n1_;have BK372:=n2_;have HB:=n3_;clear n0_ n1_ n2_ n3_
  refine start_ (n:=9) (S:=fun w'=>w'.cell? ⟨gb370,0,none⟩=some (.int .i64 a0_0)∧w'.cell? ⟨gb370,1,none⟩=some (.int .i64 a0_1)∧w'.cell? ⟨gb370,2,none⟩=some (.int .i64 a0_2)∧w'.cell? ⟨gb370,3,none⟩=some (.int .i64 a0_3)∧w'.cell? ⟨gb371,0,none⟩=some (.int .i64 a1_0)∧w'.cell? ⟨gb371,1,none⟩=some (.int .i64 a1_1)∧w'.cell? ⟨gb371,2,none⟩=some (.int .i64 a1_2)∧w'.cell? ⟨gb371,3,none⟩=some (.int .i64 a1_3)) (ds:=[6,7]) #[F_,F_,F_,F_,F_,F_,F_,F_,F_] (by kernel_rfl) rfl rfl ⟨(blk_cell BK370.out 0).trans rfl,(blk_cell BK370.out 1).trans rfl,(blk_cell BK370.out 2).trans rfl,(blk_cell BK370.out 3).trans rfl,(blk_cell BK371.out 0).trans rfl,(blk_cell BK371.out 1).trans rfl,(blk_cell BK371.out 2).trans rfl,(blk_cell BK371.out 3).trans rfl⟩ (fun hHeld=>?_);refine with_tabW r06_Mix.tab1 r06_Mix.bits1 (fun HT_ HW_=>?_)
  generalize w11.drew=w12 at BK370 BK371 BK372 HB hHeld ⊢
  refine pure_ (i:=4) (N:=some 15) (v:=?_) (a':=?_) #[F_,F_,F_,F_,T_,F_,F_,F_,F_] rfl rfl (any_of HT_.out (by kernel_rfl)) (fun _ _ _ h=>h) (Or.inl ⟨by rfl,?_⟩) ?_ ?_
  rotate_left
  ·intro w'
   go_simp
   with_reducible rfl
  rotate_left
  ·simp only [Act.put,tS_,tZ_,tC_,i64_w,i32_w]
   rfl
  refine take_ (i:=0) (N:=some 11) (v:=?_) (a':=?_) #[T_,F_,F_,F_,T_,F_,F_,F_,F_] rfl rfl (take_ofW HT_.out HW_.out (by kernel_rfl)) (fun _ _ _ h=>h) (Or.inl ⟨by rfl,?_⟩) hHeld ?_ ?_
  rotate_left
  ·rintro w' ⟨s0,s1,s2,s3,s4,s5,s6,s7⟩
   go_simp
   with_reducible rfl
  rotate_left
  ·simp only [Act.put,tS_,tZ_,tC_,i64_w,i32_w]
   rfl
  refine take_ (i:=2) (N:=some 13) (v:=?_) (a':=?_) #[T_,F_,T_,F_,T_,F_,F_,F_,F_] rfl rfl (take_ofW HT_.out HW_.out (by kernel_rfl)) (fun _ _ _ h=>h) (Or.inl ⟨by rfl,?_⟩) hHeld ?_ ?_
  rotate_left
  ·rintro w' ⟨s0,s1,s2,s3,s4,s5,s6,s7⟩
   go_simp
   with_reducible rfl
  rotate_left
  ·simp only [Act.put,tS_,tZ_,tC_,i64_w,i32_w]
   rfl
  refine one_ (i:=1) (N:=some 12) #[T_,T_,T_,F_,T_,F_,F_,F_,F_] rfl rfl (one_of HT_.out (by kernel_rfl)) (by decide) (fun K hK=>?_)
  refine goes_ Try.func48 (by kernel_rfl) rfl #[.agg #[.int .i64 a0_0,.int .i64 a0_1,.int .i64 a0_2,.int .i64 a0_3]] (by rfl) rfl rfl (by (try simp only [mA_,mC_,mN_]);first|done|rfl|(simp only [dL_,kL_];rfl)) ?_
  with_reducible refine (r06_Limit.calls a0_0 a0_1 a0_2 a0_3 t373 t374 t375 t376 _ A4.out).mono ?_
  rintro e w13 ⟨rfl,hb⟩;refine ⟨_,rfl,?_⟩
  have n0_:=Aside0.mk (blk_below (by (with_reducible repeat first|apply bN_|apply bD_|apply bA_);exact BK370.out) hb)
  have n1_:=Aside0.mk (blk_below (by (with_reducible repeat first|apply bN_|apply bD_|apply bA_);exact BK371.out) hb)
  have n2_:=Aside0.mk (blk_below (by (with_reducible repeat first|apply bN_|apply bD_|apply bA_);exact BK372.out) hb)
  have n3_:=Aside0.mk (below_step (by repeat first|(with_reducible first|exact HB.out|apply lA_|apply lN_|apply lD_|refine lS_ ?_ GE370.out|refine lS_ ?_ GE371.out|refine lS_ ?_ GE372.out)|exact HB.out) hb)
  clear BK370;clear BK371;clear BK372;clear HB;have BK370:=n0_;have BK371:=n1_;have BK372:=n2_;have HB:=n3_;clear n0_ n1_ n2_ n3_
  (try clear hb)
  (try clear hb2)
  (try clear hk)
  (try clear hi)
  refine hK.out _ _ ⟨(blk_cell BK370.out 0).trans rfl,(blk_cell BK370.out 1).trans rfl,(blk_cell BK370.out 2).trans rfl,(blk_cell BK370.out 3).trans rfl,(blk_cell BK371.out 0).trans rfl,(blk_cell BK371.out 1).trans rfl,(blk_cell BK371.out 2).trans rfl,(blk_cell BK371.out 3).trans rfl⟩ (fun hHeld=>?_)
  clear hK K;refine norm_ (a':=?_) ?_ ?_;rotate_left
  ·show Act.put _ (some 12) _=_
   simp only [Act.put,tS_,tZ_,tC_,i64_w,i32_w];rfl
  refine one_ (i:=3) (N:=some 14) #[T_,T_,T_,T_,T_,F_,F_,F_,F_] rfl rfl (one_of HT_.out (by kernel_rfl)) (by decide) (fun K hK=>?_)
  refine goes_ Try.func48 (by kernel_rfl) rfl #[.agg #[.int .i64 a1_0,.int .i64 a1_1,.int .i64 a1_2,.int .i64 a1_3]] (by rfl) rfl rfl (by (try simp only [mA_,mC_,mN_]);first|done|rfl|(simp only [dL_,kL_];rfl)) ?_
  with_reducible refine (r06_Limit.calls a1_0 a1_1 a1_2 a1_3 t377 t378 t379 t380 _ A5.out).mono ?_
  rintro e w14 ⟨rfl,hb⟩;refine ⟨_,rfl,?_⟩
  have n0_:=Aside0.mk (blk_below (by (with_reducible repeat first|apply bN_|apply bD_|apply bA_);exact BK370.out) hb)
  have n1_:=Aside0.mk (blk_below (by (with_reducible repeat first|apply bN_|apply bD_|apply bA_);exact BK371.out) hb)
  have n2_:=Aside0.mk (blk_below (by (with_reducible repeat first|apply bN_|apply bD_|apply bA_);exact BK372.out) hb)
  have n3_:=Aside0.mk (below_step (by repeat first|(with_reducible first|exact HB.out|apply lA_|apply lN_|apply lD_|refine lS_ ?_ GE370.out|refine lS_ ?_ GE371.out|refine lS_ ?_ GE372.out)|exact HB.out) hb)
  clear BK370;clear BK371;clear BK372;clear HB;have BK370:=n0_;have BK371:=n1_;have BK372:=n2_;have HB:=n3_;clear n0_ n1_ n2_ n3_
  (try clear hb)
  (try clear hb2)
  (try clear hk)
  (try clear hi)
  refine hK.out _ _ ⟨(blk_cell BK370.out 0).trans rfl,(blk_cell BK370.out 1).trans rfl,(blk_cell BK370.out 2).trans rfl,(blk_cell BK370.out 3).trans rfl,(blk_cell BK371.out 0).trans rfl,(blk_cell BK371.out 1).trans rfl,(blk_cell BK371.out 2).trans rfl,(blk_cell BK371.out 3).trans rfl⟩ (fun hHeld=>?_)
  clear hK K;refine norm_ (a':=?_) ?_ ?_;rotate_left
  ·show Act.put _ (some 14) _=_
   simp only [Act.put,tS_,tZ_,tC_,i64_w,i32_w];rfl
  refine one_ (i:=5) (N:=some 16) #[T_,T_,T_,T_,T_,T_,F_,F_,F_] rfl rfl (one_of HT_.out (by kernel_rfl)) (by decide) (fun K hK=>?_)
  refine goes_ Try.func32 (by kernel_rfl) rfl #[.int .i64 a2] (by rfl) rfl rfl (by (try simp only [mA_,mC_,mN_]);first|done|rfl|(simp only [dL_,kL_];rfl)) ?_
  with_reducible refine (r06_U.calls a2 t381 _ A6.out).mono ?_
  rintro e w15 ⟨rfl,hb⟩;refine ⟨_,rfl,?_⟩
  have n0_:=Aside0.mk (blk_below (by (with_reducible repeat first|apply bN_|apply bD_|apply bA_);exact BK370.out) hb)
  have n1_:=Aside0.mk (blk_below (by (with_reducible repeat first|apply bN_|apply bD_|apply bA_);exact BK371.out) hb)
  have n2_:=Aside0.mk (blk_below (by (with_reducible repeat first|apply bN_|apply bD_|apply bA_);exact BK372.out) hb)
  have n3_:=Aside0.mk (below_step (by repeat first|(with_reducible first|exact HB.out|apply lA_|apply lN_|apply lD_|refine lS_ ?_ GE370.out|refine lS_ ?_ GE371.out|refine lS_ ?_ GE372.out)|exact HB.out) hb)
  clear BK370;clear BK371;clear BK372;clear HB;have BK370:=n0_;have BK371:=n1_;have BK372:=n2_;have HB:=n3_;clear n0_ n1_ n2_ n3_
  (try clear hb)
  (try clear hb2)
  (try clear hk)
  (try clear hi)
  refine hK.out _ _ ⟨(blk_cell BK370.out 0).trans rfl,(blk_cell BK370.out 1).trans rfl,(blk_cell BK370.out 2).trans rfl,(blk_cell BK370.out 3).trans rfl,(blk_cell BK371.out 0).trans rfl,(blk_cell BK371.out 1).trans rfl,(blk_cell BK371.out 2).trans rfl,(blk_cell BK371.out 3).trans rfl⟩ (fun hHeld=>?_)
  clear hK K;refine norm_ (a':=?_) ?_ ?_;rotate_left
  ·show Act.put _ (some 16) _=_
   simp only [Act.put,tS_,tZ_,tC_,i64_w,i32_w];rfl
  refine last_ (i:=6) (N:=none) #[T_,T_,T_,T_,T_,T_,T_,F_,F_] rfl rfl (one_of HT_.out (by kernel_rfl)) (by decide) (fun K hK=>?_)
  have hs16:w15.cell? ⟨gb370,0,none⟩=some (.int .i64 a0_0):=(blk_cell BK370.out 0).trans rfl;have hfs16:=blk_frozen BK370.out 0;have hns16_1:=NB371_370.out;have hns16_2:=NB372_370.out;have hms16_1:=NB370_371.out;have hms16_2:=NB370_372.out;have hs17:w15.cell? ⟨gb370,1,none⟩=some (.int .i64 a0_1):=(blk_cell BK370.out 1).trans rfl;have hfs17:=blk_frozen BK370.out 1;have hns17_1:=NB371_370.out;have hns17_2:=NB372_370.out;have hms17_1:=NB370_371.out;have hms17_2:=NB370_372.out;have hs18:w15.cell? ⟨gb370,2,none⟩=some (.int .i64 a0_2):=(blk_cell BK370.out 2).trans rfl;have hfs18:=blk_frozen BK370.out 2;have hns18_1:=NB371_370.out;have hns18_2:=NB372_370.out;have hms18_1:=NB370_371.out;have hms18_2:=NB370_372.out;have hs19:w15.cell? ⟨gb370,3,none⟩=some (.int .i64 a0_3):=(blk_cell BK370.out 3).trans rfl;have hfs19:=blk_frozen BK370.out 3;have hns19_1:=NB371_370.out;have hns19_2:=NB372_370.out;have hms19_1:=NB370_371.out;have hms19_2:=NB370_372.out
  refine skip_ (w1:=?_) (by rfl) rfl ?_ ?_
  rotate_left
  ·go_simp
   rfl
  refine hK.out _ _ ?_;clear hK K
  refine last_ (i:=7) (N:=none) #[T_,T_,T_,T_,T_,T_,T_,T_,F_] rfl rfl (one_of HT_.out (by kernel_rfl)) (by decide) (fun K hK=>?_)
  have hs20:w15.cell? ⟨gb371,0,none⟩=some (.int .i64 a1_0):=(blk_cell BK371.out 0).trans rfl;have hfs20:=blk_frozen BK371.out 0;have hns20_0:=NB370_371.out;have hns20_2:=NB372_371.out;have hms20_0:=NB371_370.out;have hms20_2:=NB371_372.out;have hs21:w15.cell? ⟨gb371,1,none⟩=some (.int .i64 a1_1):=(blk_cell BK371.out 1).trans rfl;have hfs21:=blk_frozen BK371.out 1;have hns21_0:=NB370_371.out;have hns21_2:=NB372_371.out;have hms21_0:=NB371_370.out;have hms21_2:=NB371_372.out;have hs22:w15.cell? ⟨gb371,2,none⟩=some (.int .i64 a1_2):=(blk_cell BK371.out 2).trans rfl;have hfs22:=blk_frozen BK371.out 2;have hns22_0:=NB370_371.out;have hns22_2:=NB372_371.out;have hms22_0:=NB371_370.out;have hms22_2:=NB371_372.out;have hs23:w15.cell? ⟨gb371,3,none⟩=some (.int .i64 a1_3):=(blk_cell BK371.out 3).trans rfl;have hfs23:=blk_frozen BK371.out 3;have hns23_0:=NB370_371.out;have hns23_2:=NB372_371.out;have hms23_0:=NB371_370.out;have hms23_2:=NB371_372.out
  refine skip_ (w1:=?_) (by rfl) rfl ?_ ?_
  rotate_left
  ·go_simp
   rfl
  refine hK.out _ _ ?_;clear hK K
  refine pure_ (i:=8) (N:=some 2) (v:=?_) (a':=?_) #[T_,T_,T_,T_,T_,T_,T_,T_,T_] rfl rfl (any_of HT_.out (by kernel_rfl)) (fun _ _ _ h=>h) (Or.inl ⟨by rfl,?_⟩) ?_ ?_
  rotate_left
  ·intro w'
   go_simp
   with_reducible rfl
  rotate_left
  ·simp only [Act.put,tS_,tZ_,tC_,i64_w,i32_w]
   rfl
  refine done_ (done_of HT_.out (by kernel_rfl)) ?_
  try go_wp2
  have n0_:Aside0 (((((((((w15.setCell ⟨gb370,0,none⟩ (.int .i64 t373)).setCell ⟨gb370,1,none⟩ (.int .i64 t374)).setCell ⟨gb370,2,none⟩ (.int .i64 t375)).setCell ⟨gb370,3,none⟩ (.int .i64 t376)).setCell ⟨gb371,0,none⟩ (.int .i64 t377)).setCell ⟨gb371,1,none⟩ (.int .i64 t378)).setCell ⟨gb371,2,none⟩ (.int .i64 t379)).setCell ⟨gb371,3,none⟩ (.int .i64 t380)).heap[gb370]? = some (.cells #[.int .i64 t373,.int .i64 t374,.int .i64 t375,.int .i64 t376] 38 (0,0))):=⟨by (with_reducible repeat first|apply bN_|apply bD_|apply bA_);refine blk_far ?_ NB370_371.out _;(with_reducible repeat first|apply bN_|apply bD_|apply bA_);refine blk_far ?_ NB370_371.out _;(with_reducible repeat first|apply bN_|apply bD_|apply bA_);refine blk_far ?_ NB370_371.out _;(with_reducible repeat first|apply bN_|apply bD_|apply bA_);refine blk_far ?_ NB370_371.out _;(with_reducible repeat first|apply bN_|apply bD_|apply bA_);refine blk_put (cs:=#[.int .i64 t373,.int .i64 t374,.int .i64 t375,.int .i64 a0_3]) ?_ 3 _ rfl;(with_reducible repeat first|apply bN_|apply bD_|apply bA_);refine blk_put (cs:=#[.int .i64 t373,.int .i64 t374,.int .i64 a0_2,.int .i64 a0_3]) ?_ 2 _ rfl;(with_reducible repeat first|apply bN_|apply bD_|apply bA_);refine blk_put (cs:=#[.int .i64 t373,.int .i64 a0_1,.int .i64 a0_2,.int .i64 a0_3]) ?_ 1 _ rfl;(with_reducible repeat first|apply bN_|apply bD_|apply bA_);refine blk_put (cs:=#[.int .i64 a0_0,.int .i64 a0_1,.int .i64 a0_2,.int .i64 a0_3]) ?_ 0 _ rfl;(with_reducible repeat first|apply bN_|apply bD_|apply bA_);exact BK370.out⟩
  have n1_:Aside0 (((((((((w15.setCell ⟨gb370,0,none⟩ (.int .i64 t373)).setCell ⟨gb370,1,none⟩ (.int .i64 t374)).setCell ⟨gb370,2,none⟩ (.int .i64 t375)).setCell ⟨gb370,3,none⟩ (.int .i64 t376)).setCell ⟨gb371,0,none⟩ (.int .i64 t377)).setCell ⟨gb371,1,none⟩ (.int .i64 t378)).setCell ⟨gb371,2,none⟩ (.int .i64 t379)).setCell ⟨gb371,3,none⟩ (.int .i64 t380)).heap[gb371]? = some (.cells #[.int .i64 t377,.int .i64 t378,.int .i64 t379,.int .i64 t380] 38 (0,0))):=⟨by (with_reducible repeat first|apply bN_|apply bD_|apply bA_);refine blk_put (cs:=#[.int .i64 t377,.int .i64 t378,.int .i64 t379,.int .i64 a1_3]) ?_ 3 _ rfl;(with_reducible repeat first|apply bN_|apply bD_|apply bA_);refine blk_put (cs:=#[.int .i64 t377,.int .i64 t378,.int .i64 a1_2,.int .i64 a1_3]) ?_ 2 _ rfl;(with_reducible repeat first|apply bN_|apply bD_|apply bA_);refine blk_put (cs:=#[.int .i64 t377,.int .i64 a1_1,.int .i64 a1_2,.int .i64 a1_3]) ?_ 1 _ rfl;(with_reducible repeat first|apply bN_|apply bD_|apply bA_);refine blk_put (cs:=#[.int .i64 a1_0,.int .i64 a1_1,.int .i64 a1_2,.int .i64 a1_3]) ?_ 0 _ rfl;(with_reducible repeat first|apply bN_|apply bD_|apply bA_);refine blk_far ?_ NB371_370.out _;(with_reducible repeat first|apply bN_|apply bD_|apply bA_);refine blk_far ?_ NB371_370.out _;(with_reducible repeat first|apply bN_|apply bD_|apply bA_);refine blk_far ?_ NB371_370.out _;(with_reducible repeat first|apply bN_|apply bD_|apply bA_);refine blk_far ?_ NB371_370.out _;(with_reducible repeat first|apply bN_|apply bD_|apply bA_);exact BK371.out⟩
  have n2_:Aside0 (((((((((w15.setCell ⟨gb370,0,none⟩ (.int .i64 t373)).setCell ⟨gb370,1,none⟩ (.int .i64 t374)).setCell ⟨gb370,2,none⟩ (.int .i64 t375)).setCell ⟨gb370,3,none⟩ (.int .i64 t376)).setCell ⟨gb371,0,none⟩ (.int .i64 t377)).setCell ⟨gb371,1,none⟩ (.int .i64 t378)).setCell ⟨gb371,2,none⟩ (.int .i64 t379)).setCell ⟨gb371,3,none⟩ (.int .i64 t380)).heap[gb372]? = some (.cells #[.int .i64 0,.int .i64 0,.int .i64 0,.int .i64 0] 38 (0,0))):=⟨by (with_reducible repeat first|apply bN_|apply bD_|apply bA_);refine blk_far ?_ NB372_371.out _;(with_reducible repeat first|apply bN_|apply bD_|apply bA_);refine blk_far ?_ NB372_371.out _;(with_reducible repeat first|apply bN_|apply bD_|apply bA_);refine blk_far ?_ NB372_371.out _;(with_reducible repeat first|apply bN_|apply bD_|apply bA_);refine blk_far ?_ NB372_371.out _;(with_reducible repeat first|apply bN_|apply bD_|apply bA_);refine blk_far ?_ NB372_370.out _;(with_reducible repeat first|apply bN_|apply bD_|apply bA_);refine blk_far ?_ NB372_370.out _;(with_reducible repeat first|apply bN_|apply bD_|apply bA_);refine blk_far ?_ NB372_370.out _;(with_reducible repeat first|apply bN_|apply bD_|apply bA_);refine blk_far ?_ NB372_370.out _;(with_reducible repeat first|apply bN_|apply bD_|apply bA_);exact BK372.out⟩
  have n3_:Aside0 (Below w.heap.size w ((((((((w15.setCell ⟨gb370,0,none⟩ (.int .i64 t373)).setCell ⟨gb370,1,none⟩ (.int .i64 t374)).setCell ⟨gb370,2,none⟩ (.int .i64 t375)).setCell ⟨gb370,3,none⟩ (.int .i64 t376)).setCell ⟨gb371,0,none⟩ (.int .i64 t377)).setCell ⟨gb371,1,none⟩ (.int .i64 t378)).setCell ⟨gb371,2,none⟩ (.int .i64 t379)).setCell ⟨gb371,3,none⟩ (.int .i64 t380))):=⟨by repeat first|(with_reducible first|exact HB.out|apply lA_|apply lN_|apply lD_|refine lS_ ?_ GE370.out|refine lS_ ?_ GE371.out|refine lS_ ?_ GE372.out)|exact HB.out⟩
  (try clear BK370)
  (try clear BK371)
  (try clear BK372)
  (try clear HB)
  generalize ((((((((w15.setCell ⟨gb370,0,none⟩ (.int .i64 t373)).setCell ⟨gb370,1,none⟩ (.int .i64 t374)).setCell ⟨gb370,2,none⟩ (.int .i64 t375)).setCell ⟨gb370,3,none⟩ (.int .i64 t376)).setCell ⟨gb371,0,none⟩ (.int .i64 t377)).setCell ⟨gb371,1,none⟩ (.int .i64 t378)).setCell ⟨gb371,2,none⟩ (.int .i64 t379)).setCell ⟨gb371,3,none⟩ (.int .i64 t380))=w24 at n0_ n1_ n2_ n3_ ⊢
  have BK370:=n0_;have BK371:=n1_;have BK372:=n2_;have HB:=n3_;clear n0_ n1_ n2_ n3_;have n0_:=Aside0.mk (blk_drew BK370.out);have n1_:=Aside0.mk (blk_drew BK371.out);have n2_:=Aside0.mk (blk_drew BK372.out);have n3_:=Aside0.mk (below_drew1 HB.out);clear BK370;clear BK371;clear BK372;clear HB;have BK370:=n0_;have BK371:=n1_;have BK372:=n2_;have HB:=n3_;clear n0_ n1_ n2_ n3_
  refine start_ (n:=11) (S:=fun w'=>w'.cell? ⟨gb370,0,none⟩=some (.int .i64 t373)∧w'.cell? ⟨gb370,1,none⟩=some (.int .i64 t374)∧w'.cell? ⟨gb370,2,none⟩=some (.int .i64 t375)∧w'.cell? ⟨gb370,3,none⟩=some (.int .i64 t376)∧w'.cell? ⟨gb371,0,none⟩=some (.int .i64 t377)∧w'.cell? ⟨gb371,1,none⟩=some (.int .i64 t378)∧w'.cell? ⟨gb371,2,none⟩=some (.int .i64 t379)∧w'.cell? ⟨gb371,3,none⟩=some (.int .i64 t380)) (ds:=[]) #[F_,F_,F_,F_,F_,F_,F_,F_,F_,F_,F_] (by kernel_rfl) rfl rfl ⟨(blk_cell BK370.out 0).trans rfl,(blk_cell BK370.out 1).trans rfl,(blk_cell BK370.out 2).trans rfl,(blk_cell BK370.out 3).trans rfl,(blk_cell BK371.out 0).trans rfl,(blk_cell BK371.out 1).trans rfl,(blk_cell BK371.out 2).trans rfl,(blk_cell BK371.out 3).trans rfl⟩ (fun hHeld=>?_);refine with_tabW r06_Mix.tab2 r06_Mix.bits2 (fun HT_ HW_=>?_)
  generalize w24.drew=w25 at BK370 BK371 BK372 HB hHeld ⊢
  refine pure_ (i:=0) (N:=some 17) (v:=?_) (a':=?_) #[T_,F_,F_,F_,F_,F_,F_,F_,F_,F_,F_] rfl rfl (any_of HT_.out (by kernel_rfl)) (fun _ _ _ h=>h) (Or.inl ⟨by rfl,?_⟩) ?_ ?_
  rotate_left
  ·intro w'
   go_simp
   with_reducible rfl
  rotate_left
  ·simp only [Act.put,tS_,tZ_,tC_,i64_w,i32_w]
   rfl
  refine pure_ (i:=2) (N:=some 19) (v:=?_) (a':=?_) #[T_,F_,T_,F_,F_,F_,F_,F_,F_,F_,F_] rfl rfl (any_of HT_.out (by kernel_rfl)) (fun _ _ _ h=>h) (Or.inl ⟨by rfl,?_⟩) ?_ ?_
  rotate_left
  ·intro w'
   go_simp
   with_reducible rfl
  rotate_left
  ·simp only [Act.put,tS_,tZ_,tC_,i64_w,i32_w]
   rfl
  refine pure_ (i:=3) (N:=some 20) (v:=?_) (a':=?_) #[T_,F_,T_,T_,F_,F_,F_,F_,F_,F_,F_] rfl rfl (any_of HT_.out (by kernel_rfl)) (fun _ _ _ h=>h) (Or.inl ⟨by rfl,?_⟩) ?_ ?_
  rotate_left
  ·intro w'
   go_simp
   with_reducible rfl
  rotate_left
  ·simp only [Act.put,tS_,tZ_,tC_,i64_w,i32_w]
   rfl
  refine pure_ (i:=5) (N:=some 22) (v:=?_) (a':=?_) #[T_,F_,T_,T_,F_,T_,F_,F_,F_,F_,F_] rfl rfl (any_of HT_.out (by kernel_rfl)) (fun _ _ _ h=>h) (Or.inl ⟨by rfl,?_⟩) ?_ ?_
  rotate_left
  ·intro w'
   go_simp
   with_reducible rfl
  rotate_left
  ·simp only [Act.put,tS_,tZ_,tC_,i64_w,i32_w]
   rfl
  refine pure_ (i:=7) (N:=some 24) (v:=?_) (a':=?_) #[T_,F_,T_,T_,F_,T_,F_,T_,F_,F_,F_] rfl rfl (any_of HT_.out (by kernel_rfl)) (fun _ _ _ h=>h) (Or.inl ⟨by rfl,?_⟩) ?_ ?_
  rotate_left
  ·intro w'
   go_simp
   with_reducible rfl
  rotate_left
  ·simp only [Act.put,tS_,tZ_,tC_,i64_w,i32_w]
   rfl
  refine take_ (i:=1) (N:=some 18) (v:=?_) (a':=?_) #[T_,T_,T_,T_,F_,T_,F_,T_,F_,F_,F_] rfl rfl (take_ofW HT_.out HW_.out (by kernel_rfl)) (fun _ _ _ h=>h) (Or.inl ⟨by rfl,?_⟩) hHeld ?_ ?_
  rotate_left
  ·rintro w' ⟨s0,s1,s2,s3,s4,s5,s6,s7⟩
   go_simp
   with_reducible rfl
  rotate_left
  ·simp only [Act.put,tS_,tZ_,tC_,i64_w,i32_w]
   rfl
  refine pure_ (i:=4) (N:=some 21) (v:=?_) (a':=?_) #[T_,T_,T_,T_,T_,T_,F_,T_,F_,F_,F_] rfl rfl (any_of HT_.out (by kernel_rfl)) (fun _ _ _ h=>h) (Or.inl ⟨by rfl,?_⟩) ?_ ?_
  rotate_left
  ·intro w'
   go_simp
   with_reducible rfl
  rotate_left
  ·simp only [Act.put,tS_,tZ_,tC_,i64_w,i32_w]
   rfl
  refine pure_ (i:=9) (N:=some 7) (v:=?_) (a':=?_) #[T_,T_,T_,T_,T_,T_,F_,T_,F_,T_,F_] rfl rfl (any_of HT_.out (by kernel_rfl)) (fun _ _ _ h=>h) (Or.inl ⟨by rfl,?_⟩) ?_ ?_
  rotate_left
  ·intro w'
   go_simp
   with_reducible rfl
  rotate_left
  ·simp only [Act.put,tS_,tZ_,tC_,i64_w,i32_w]
   rfl
  refine take_ (i:=6) (N:=some 23) (v:=?_) (a':=?_) #[T_,T_,T_,T_,T_,T_,T_,T_,F_,T_,F_] rfl rfl (take_ofW HT_.out HW_.out (by kernel_rfl)) (fun _ _ _ h=>h) (Or.inl ⟨by rfl,?_⟩) hHeld ?_ ?_
  rotate_left
  ·rintro w' ⟨s0,s1,s2,s3,s4,s5,s6,s7⟩
   go_simp
   with_reducible rfl
  rotate_left
  ·simp only [Act.put,tS_,tZ_,tC_,i64_w,i32_w]
   rfl
  refine pure_ (i:=8) (N:=some 25) (v:=?_) (a':=?_) #[T_,T_,T_,T_,T_,T_,T_,T_,T_,T_,F_] rfl rfl (any_of HT_.out (by kernel_rfl)) (fun _ _ _ h=>h) (Or.inl ⟨by rfl,?_⟩) ?_ ?_
  rotate_left
  ·intro w'
   go_simp
   with_reducible rfl
  rotate_left
  ·simp only [Act.put,tS_,tZ_,tC_,i64_w,i32_w]
   rfl
  refine pure_ (i:=10) (N:=some 8) (v:=?_) (a':=?_) #[T_,T_,T_,T_,T_,T_,T_,T_,T_,T_,T_] rfl rfl (any_of HT_.out (by kernel_rfl)) (fun _ _ _ h=>h) (Or.inl ⟨by rfl,?_⟩) ?_ ?_
  rotate_left
  ·intro w'
   go_simp
   with_reducible rfl
  rotate_left
  ·simp only [Act.put,tS_,tZ_,tC_,i64_w,i32_w]
   rfl
  refine done_ (done_of HT_.out (by kernel_rfl)) ?_
  try go_wp2_with (first|((with_reducible refine gate_callee (f:=34) rfl ?_);refine goesL_ (some 30) rfl rfl Try.func34 (by kernel_rfl) rfl #[.int .i64 (wrap64 ((wrap64 (t376*(wrap64 (65535-t381))))+(wrap64 (t380*t381)))),.int .i64 65535] rfl (by (try simp only [mA_,mC_,mN_]);first|done|rfl|(simp only [dL_,kL_];rfl)) ?_;(with_reducible refine (r01_Div.calls k (wrap64 ((wrap64 (t376*(wrap64 (65535-t381))))+(wrap64 (t380*t381)))) 65535 t382 _ A7.out).mono ?_);rintro e w' ⟨rfl,⟨nd,rfl⟩⟩;refine ⟨_,rfl,?_⟩;(try (rw [drewN_self w25];generalize hq_:World.drewN w25 _=w25;have n0_:Aside0 (w25.heap[gb370]? = some (.cells #[.int .i64 t373,.int .i64 t374,.int .i64 t375,.int .i64 t376] 38 (0,0))):=⟨by rw [← hq_];exact (by (with_reducible repeat first|apply bN_|apply bD_|apply bA_);exact BK370.out)⟩;have n1_:Aside0 (w25.heap[gb371]? = some (.cells #[.int .i64 t377,.int .i64 t378,.int .i64 t379,.int .i64 t380] 38 (0,0))):=⟨by rw [← hq_];exact (by (with_reducible repeat first|apply bN_|apply bD_|apply bA_);exact BK371.out)⟩;have n2_:Aside0 (w25.heap[gb372]? = some (.cells #[.int .i64 0,.int .i64 0,.int .i64 0,.int .i64 0] 38 (0,0))):=⟨by rw [← hq_];exact (by (with_reducible repeat first|apply bN_|apply bD_|apply bA_);exact BK372.out)⟩;have n3_:Aside0 (Below w.heap.size w w25):=⟨by rw [← hq_];exact (by repeat first|(with_reducible first|exact HB.out|apply lA_|apply lN_|apply lD_|refine lS_ ?_ GE370.out|refine lS_ ?_ GE371.out|refine lS_ ?_ GE372.out)|exact HB.out)⟩;clear BK370 BK371 BK372 HB hq_;have BK370:=n0_;have BK371:=n1_;have BK372:=n2_;have HB:=n3_;clear n0_ n1_ n2_ n3_));have hnb26:=NB372_370.out;have hnc26:=NB370_372.out;have hnb27:=NB372_371.out;have hnc27:=NB371_372.out;have hcz28_0:w25.cell? ⟨gb372,0,none⟩=some (.int .i64 0):=(blk_cell BK372.out 0).trans rfl;have hcz28_1:w25.cell? ⟨gb372,1,none⟩=some (.int .i64 0):=(blk_cell BK372.out 1).trans rfl;have hcz28_2:w25.cell? ⟨gb372,2,none⟩=some (.int .i64 0):=(blk_cell BK372.out 2).trans rfl;have hcz28_3:w25.cell? ⟨gb372,3,none⟩=some (.int .i64 0):=(blk_cell BK372.out 3).trans rfl;have hfz28_0:=blk_frozen BK372.out 0;have hfz28_1:=blk_frozen BK372.out 1;have hfz28_2:=blk_frozen BK372.out 2;have hfz28_3:=blk_frozen BK372.out 3))
  refine bodyPost_ret (results_cell_row rfl _ _ gb372 38 #[.int .i64 0,.int .i64 0,.int .i64 0,.int .i64 0] (0,0) _ rfl (by (with_reducible repeat first|apply bN_|apply bD_|apply bA_);refine blk_put (cs:=#[.int .i64 0,.int .i64 0,.int .i64 0,.int .i64 0]) ?_ 3 _ rfl;(with_reducible repeat first|apply bN_|apply bD_|apply bA_);refine blk_put (cs:=#[.int .i64 0,.int .i64 0,.int .i64 0,.int .i64 0]) ?_ 2 _ rfl;(with_reducible repeat first|apply bN_|apply bD_|apply bA_);refine blk_put (cs:=#[.int .i64 0,.int .i64 0,.int .i64 0,.int .i64 0]) ?_ 1 _ rfl;(with_reducible repeat first|apply bN_|apply bD_|apply bA_);refine blk_put (cs:=#[.int .i64 0,.int .i64 0,.int .i64 0,.int .i64 0]) ?_ 0 _ rfl;(with_reducible repeat first|apply bN_|apply bD_|apply bA_);exact BK372.out) Try.underlying38 rfl (by kernel_rfl)) rfl ?_
  exact ⟨by first|rfl|(simp [errW_none,errW_some] <;> rfl)|(simp [*,errW_none,errW_some] <;> rfl),by repeat first|(with_reducible first|exact HB.out|apply lA_|apply lN_|apply lD_|refine lS_ ?_ GE370.out|refine lS_ ?_ GE371.out|refine lS_ ?_ GE372.out)|exact HB.out⟩
 rw [if_neg c8] at H;have c8b0:(t382==0)=false:=beq_eq_false_iff_ne.mpr c8;have c8b1:(t382 != 0)=true:=bne_iff_ne.mpr c8;replace H:=Option.bind_eq_some_iff.mp H;obtain ⟨t383,A290,H⟩:=H
 replace H:((r01_Div.f k (wrap64 ((wrap64 (t374*(wrap64 (t376*(wrap64 (65535-t381))))))+(wrap64 (t378*(wrap64 (t380*t381)))))) (wrap64 ((wrap64 (t376*(wrap64 (65535-t381))))+(wrap64 (t380*t381))))).bind fun t384=>((r01_Div.f k (wrap64 ((wrap64 (t375*(wrap64 (t376*(wrap64 (65535-t381))))))+(wrap64 (t379*(wrap64 (t380*t381)))))) (wrap64 ((wrap64 (t376*(wrap64 (65535-t381))))+(wrap64 (t380*t381))))).bind fun t385=>(some (t383,t384,t385,t382))))=some (r1,r2,r3,r4):=H
 have A29:=Aside0.mk A290;clear A290;replace H:=Option.bind_eq_some_iff.mp H;obtain ⟨t384,A300,H⟩:=H
 replace H:((r01_Div.f k (wrap64 ((wrap64 (t375*(wrap64 (t376*(wrap64 (65535-t381))))))+(wrap64 (t379*(wrap64 (t380*t381)))))) (wrap64 ((wrap64 (t376*(wrap64 (65535-t381))))+(wrap64 (t380*t381))))).bind fun t385=>(some (t383,t384,t385,t382)))=some (r1,r2,r3,r4):=H
 have A30:=Aside0.mk A300;clear A300;replace H:=Option.bind_eq_some_iff.mp H;obtain ⟨t385,A310,H⟩:=H;replace H:(some (t383,t384,t385,t382))=some (r1,r2,r3,r4):=H;have A31:=Aside0.mk A310;clear A310;simp only [Option.some.injEq,Prod.mk.injEq] at H;obtain ⟨rfl,rfl,rfl,rfl⟩:=H
 go_enter Try.func33,Try.ntmps33
 try go_wp2_with (first|((with_reducible refine gate_dst (N:=3) rfl ?_);refine box_event ?hg (N:=3) ?hd (cs:=#[.int .i64 a0_0,.int .i64 a0_1,.int .i64 a0_2,.int .i64 a0_3]) (t:=38) ?hr ?_;(case hd=>rfl);(case hg=>rfl);(case hr=>first|(go_simp;done)|(go_simp;rfl));intro gb370 hg w32 hbox hb;have n0_:=Aside0.mk (below_step (by repeat first|(with_reducible first|exact HB.out|apply lA_|apply lN_|apply lD_)|exact HB.out) hb);have n1_:=Aside0.mk (hbox);have n2_:=Aside0.mk ((by rw [hg];exact (below_size (by repeat first|(with_reducible first|exact HB.out|apply lA_|apply lN_|apply lD_)|exact HB.out)):w.heap.size≤gb370));have n3_:=Aside0.mk ((by rw [hg];exact (below_size (by repeat first|(with_reducible first|exact HB.out|apply lA_|apply lN_|apply lD_)|exact HB.out)):w.heap.size≤gb370));clear HB;have HB:=n0_;have BK370:=n1_;have GW370:=n2_;have GE370:=n3_;clear n0_ n1_ n2_ n3_;clear hb hbox hg)|((with_reducible refine gate_dst (N:=4) rfl ?_);refine box_event ?hg (N:=4) ?hd (cs:=#[.int .i64 a1_0,.int .i64 a1_1,.int .i64 a1_2,.int .i64 a1_3]) (t:=38) ?hr ?_;(case hd=>rfl);(case hg=>rfl);(case hr=>first|(go_simp;done)|(go_simp;rfl));intro gb371 hg w33 hbox hb;have n0_:=Aside0.mk (blk_below (by (with_reducible repeat first|apply bN_|apply bD_|apply bA_);exact BK370.out) hb);have n1_:=Aside0.mk (below_step (by repeat first|(with_reducible first|exact HB.out|apply lA_|apply lN_|apply lD_|refine lS_ ?_ GE370.out)|exact HB.out) hb);have n2_:=Aside0.mk (hbox);have n3_:=Aside0.mk ((by rw [hg];exact (below_size (by repeat first|(with_reducible first|exact HB.out|apply lA_|apply lN_|apply lD_|refine lS_ ?_ GE370.out)|exact HB.out)):w.heap.size≤gb371));have n4_:=Aside0.mk ((by rw [hg];exact (below_size (by repeat first|(with_reducible first|exact HB.out|apply lA_|apply lN_|apply lD_|refine lS_ ?_ GE370.out)|exact HB.out)):w.heap.size≤gb371));have n5_:=Aside0.mk ((by rw [hg];exact Nat.ne_of_lt (blk_lt (g:=gb370) (o:=.cells #[.int .i64 a0_0,.int .i64 a0_1,.int .i64 a0_2,.int .i64 a0_3] 38 (0,0)) (by (with_reducible repeat first|apply bN_|apply bD_|apply bA_);exact BK370.out)):gb370 ≠ gb371));have n6_:=Aside0.mk ((by rw [hg];exact Nat.ne_of_gt (blk_lt (g:=gb370) (o:=.cells #[.int .i64 a0_0,.int .i64 a0_1,.int .i64 a0_2,.int .i64 a0_3] 38 (0,0)) (by (with_reducible repeat first|apply bN_|apply bD_|apply bA_);exact BK370.out)):gb371 ≠ gb370));clear BK370;clear HB;have BK370:=n0_;have HB:=n1_;have BK371:=n2_;have GW371:=n3_;have GE371:=n4_;have NB370_371:=n5_;have NB371_370:=n6_;clear n0_ n1_ n2_ n3_ n4_ n5_ n6_;clear hb hbox hg)|((with_reducible refine gate_dst (N:=6) rfl ?_);refine box_event ?hg (N:=6) ?hd (cs:=#[.int .i64 0,.int .i64 0,.int .i64 0,.int .i64 0]) (t:=38) ?hr ?_;(case hd=>rfl);(case hg=>rfl);(case hr=>first|(go_simp;done)|(go_simp;rfl));intro gb372 hg w34 hbox hb;have n0_:=Aside0.mk (blk_below (by (with_reducible repeat first|apply bN_|apply bD_|apply bA_);exact BK370.out) hb);have n1_:=Aside0.mk (blk_below (by (with_reducible repeat first|apply bN_|apply bD_|apply bA_);exact BK371.out) hb);have n2_:=Aside0.mk (below_step (by repeat first|(with_reducible first|exact HB.out|apply lA_|apply lN_|apply lD_|refine lS_ ?_ GE370.out|refine lS_ ?_ GE371.out)|exact HB.out) hb);have n3_:=Aside0.mk (hbox);have n4_:=Aside0.mk ((by rw [hg];exact (below_size (by repeat first|(with_reducible first|exact HB.out|apply lA_|apply lN_|apply lD_|refine lS_ ?_ GE370.out|refine lS_ ?_ GE371.out)|exact HB.out)):w.heap.size≤gb372));have n5_:=Aside0.mk ((by rw [hg];exact (below_size (by repeat first|(with_reducible first|exact HB.out|apply lA_|apply lN_|apply lD_|refine lS_ ?_ GE370.out|refine lS_ ?_ GE371.out)|exact HB.out)):w.heap.size≤gb372));have n6_:=Aside0.mk ((by rw [hg];exact Nat.ne_of_lt (blk_lt (g:=gb370) (o:=.cells #[.int .i64 a0_0,.int .i64 a0_1,.int .i64 a0_2,.int .i64 a0_3] 38 (0,0)) (by (with_reducible repeat first|apply bN_|apply bD_|apply bA_);exact BK370.out)):gb370 ≠ gb372));have n7_:=Aside0.mk ((by rw [hg];exact Nat.ne_of_gt (blk_lt (g:=gb370) (o:=.cells #[.int .i64 a0_0,.int .i64 a0_1,.int .i64 a0_2,.int .i64 a0_3] 38 (0,0)) (by (with_reducible repeat first|apply bN_|apply bD_|apply bA_);exact BK370.out)):gb372 ≠ gb370));have n8_:=Aside0.mk ((by rw [hg];exact Nat.ne_of_lt (blk_lt (g:=gb371) (o:=.cells #[.int .i64 a1_0,.int .i64 a1_1,.int .i64 a1_2,.int .i64 a1_3] 38 (0,0)) (by (with_reducible repeat first|apply bN_|apply bD_|apply bA_);exact BK371.out)):gb371 ≠ gb372));have n9_:=Aside0.mk ((by rw [hg];exact Nat.ne_of_gt (blk_lt (g:=gb371) (o:=.cells #[.int .i64 a1_0,.int .i64 a1_1,.int .i64 a1_2,.int .i64 a1_3] 38 (0,0)) (by (with_reducible repeat first|apply bN_|apply bD_|apply bA_);exact BK371.out)):gb372 ≠ gb371));clear BK370;clear BK371;clear HB;have BK370:=n0_;have BK371:=n1_;have HB:=n2_;have BK372:=n3_;have GW372:=n4_;have GE372:=n5_;have NB370_372:=n6_;have NB372_370:=n7_;have NB371_372:=n8_;have NB372_371:=n9_;clear n0_ n1_ n2_ n3_ n4_ n5_ n6_ n7_ n8_ n9_;clear hb hbox hg))
 have n0_:=Aside0.mk (blk_drew BK370.out);have n1_:=Aside0.mk (blk_drew BK371.out);have n2_:=Aside0.mk (blk_drew BK372.out);have n3_:=Aside0.mk (below_drew1 HB.out);clear BK370;clear BK371;clear BK372;clear HB;have BK370:=n0_;have BK371:=n1_;have BK372:=n2_;have HB:=n3_;clear n0_ n1_ n2_ n3_
 refine start_ (n:=9) (S:=fun w'=>w'.cell? ⟨gb370,0,none⟩=some (.int .i64 a0_0)∧w'.cell? ⟨gb370,1,none⟩=some (.int .i64 a0_1)∧w'.cell? ⟨gb370,2,none⟩=some (.int .i64 a0_2)∧w'.cell? ⟨gb370,3,none⟩=some (.int .i64 a0_3)∧w'.cell? ⟨gb371,0,none⟩=some (.int .i64 a1_0)∧w'.cell? ⟨gb371,1,none⟩=some (.int .i64 a1_1)∧w'.cell? ⟨gb371,2,none⟩=some (.int .i64 a1_2)∧w'.cell? ⟨gb371,3,none⟩=some (.int .i64 a1_3)) (ds:=[6,7]) #[F_,F_,F_,F_,F_,F_,F_,F_,F_] (by kernel_rfl) rfl rfl ⟨(blk_cell BK370.out 0).trans rfl,(blk_cell BK370.out 1).trans rfl,(blk_cell BK370.out 2).trans rfl,(blk_cell BK370.out 3).trans rfl,(blk_cell BK371.out 0).trans rfl,(blk_cell BK371.out 1).trans rfl,(blk_cell BK371.out 2).trans rfl,(blk_cell BK371.out 3).trans rfl⟩ (fun hHeld=>?_);refine with_tabW r06_Mix.tab1 r06_Mix.bits1 (fun HT_ HW_=>?_)
 generalize w34.drew=w35 at BK370 BK371 BK372 HB hHeld ⊢
 refine pure_ (i:=4) (N:=some 15) (v:=?_) (a':=?_) #[F_,F_,F_,F_,T_,F_,F_,F_,F_] rfl rfl (any_of HT_.out (by kernel_rfl)) (fun _ _ _ h=>h) (Or.inl ⟨by rfl,?_⟩) ?_ ?_
 rotate_left
 ·intro w'
  go_simp
  with_reducible rfl
 rotate_left
 ·simp only [Act.put,tS_,tZ_,tC_,i64_w,i32_w]
  rfl
 refine take_ (i:=0) (N:=some 11) (v:=?_) (a':=?_) #[T_,F_,F_,F_,T_,F_,F_,F_,F_] rfl rfl (take_ofW HT_.out HW_.out (by kernel_rfl)) (fun _ _ _ h=>h) (Or.inl ⟨by rfl,?_⟩) hHeld ?_ ?_
 rotate_left
 ·rintro w' ⟨s0,s1,s2,s3,s4,s5,s6,s7⟩
  go_simp
  with_reducible rfl
 rotate_left
 ·simp only [Act.put,tS_,tZ_,tC_,i64_w,i32_w]
  rfl
 refine take_ (i:=2) (N:=some 13) (v:=?_) (a':=?_) #[T_,F_,T_,F_,T_,F_,F_,F_,F_] rfl rfl (take_ofW HT_.out HW_.out (by kernel_rfl)) (fun _ _ _ h=>h) (Or.inl ⟨by rfl,?_⟩) hHeld ?_ ?_
 rotate_left
 ·rintro w' ⟨s0,s1,s2,s3,s4,s5,s6,s7⟩
  go_simp
  with_reducible rfl
 rotate_left
 ·simp only [Act.put,tS_,tZ_,tC_,i64_w,i32_w]
  rfl
 refine one_ (i:=1) (N:=some 12) #[T_,T_,T_,F_,T_,F_,F_,F_,F_] rfl rfl (one_of HT_.out (by kernel_rfl)) (by decide) (fun K hK=>?_)
 refine goes_ Try.func48 (by kernel_rfl) rfl #[.agg #[.int .i64 a0_0,.int .i64 a0_1,.int .i64 a0_2,.int .i64 a0_3]] (by rfl) rfl rfl (by (try simp only [mA_,mC_,mN_]);first|done|rfl|(simp only [dL_,kL_];rfl)) ?_
 with_reducible refine (r06_Limit.calls a0_0 a0_1 a0_2 a0_3 t373 t374 t375 t376 _ A4.out).mono ?_
 rintro e w36 ⟨rfl,hb⟩;refine ⟨_,rfl,?_⟩
 have n0_:=Aside0.mk (blk_below (by (with_reducible repeat first|apply bN_|apply bD_|apply bA_);exact BK370.out) hb)
 have n1_:=Aside0.mk (blk_below (by (with_reducible repeat first|apply bN_|apply bD_|apply bA_);exact BK371.out) hb)
 have n2_:=Aside0.mk (blk_below (by (with_reducible repeat first|apply bN_|apply bD_|apply bA_);exact BK372.out) hb)
 have n3_:=Aside0.mk (below_step (by repeat first|(with_reducible first|exact HB.out|apply lA_|apply lN_|apply lD_|refine lS_ ?_ GE370.out|refine lS_ ?_ GE371.out|refine lS_ ?_ GE372.out)|exact HB.out) hb)
 clear BK370;clear BK371;clear BK372;clear HB;have BK370:=n0_;have BK371:=n1_;have BK372:=n2_;have HB:=n3_;clear n0_ n1_ n2_ n3_
 (try clear hb)
 (try clear hb2)
 (try clear hk)
 (try clear hi)
 refine hK.out _ _ ⟨(blk_cell BK370.out 0).trans rfl,(blk_cell BK370.out 1).trans rfl,(blk_cell BK370.out 2).trans rfl,(blk_cell BK370.out 3).trans rfl,(blk_cell BK371.out 0).trans rfl,(blk_cell BK371.out 1).trans rfl,(blk_cell BK371.out 2).trans rfl,(blk_cell BK371.out 3).trans rfl⟩ (fun hHeld=>?_)
 clear hK K;refine norm_ (a':=?_) ?_ ?_;rotate_left
 ·show Act.put _ (some 12) _=_
  simp only [Act.put,tS_,tZ_,tC_,i64_w,i32_w];rfl
 refine one_ (i:=3) (N:=some 14) #[T_,T_,T_,T_,T_,F_,F_,F_,F_] rfl rfl (one_of HT_.out (by kernel_rfl)) (by decide) (fun K hK=>?_)
 refine goes_ Try.func48 (by kernel_rfl) rfl #[.agg #[.int .i64 a1_0,.int .i64 a1_1,.int .i64 a1_2,.int .i64 a1_3]] (by rfl) rfl rfl (by (try simp only [mA_,mC_,mN_]);first|done|rfl|(simp only [dL_,kL_];rfl)) ?_
 with_reducible refine (r06_Limit.calls a1_0 a1_1 a1_2 a1_3 t377 t378 t379 t380 _ A5.out).mono ?_
 rintro e w37 ⟨rfl,hb⟩;refine ⟨_,rfl,?_⟩
 have n0_:=Aside0.mk (blk_below (by (with_reducible repeat first|apply bN_|apply bD_|apply bA_);exact BK370.out) hb)
 have n1_:=Aside0.mk (blk_below (by (with_reducible repeat first|apply bN_|apply bD_|apply bA_);exact BK371.out) hb)
 have n2_:=Aside0.mk (blk_below (by (with_reducible repeat first|apply bN_|apply bD_|apply bA_);exact BK372.out) hb)
 have n3_:=Aside0.mk (below_step (by repeat first|(with_reducible first|exact HB.out|apply lA_|apply lN_|apply lD_|refine lS_ ?_ GE370.out|refine lS_ ?_ GE371.out|refine lS_ ?_ GE372.out)|exact HB.out) hb)
 clear BK370;clear BK371;clear BK372;clear HB;have BK370:=n0_;have BK371:=n1_;have BK372:=n2_;have HB:=n3_;clear n0_ n1_ n2_ n3_
 (try clear hb)
 (try clear hb2)
 (try clear hk)
 (try clear hi)
 refine hK.out _ _ ⟨(blk_cell BK370.out 0).trans rfl,(blk_cell BK370.out 1).trans rfl,(blk_cell BK370.out 2).trans rfl,(blk_cell BK370.out 3).trans rfl,(blk_cell BK371.out 0).trans rfl,(blk_cell BK371.out 1).trans rfl,(blk_cell BK371.out 2).trans rfl,(blk_cell BK371.out 3).trans rfl⟩ (fun hHeld=>?_)
 clear hK K;refine norm_ (a':=?_) ?_ ?_;rotate_left
 ·show Act.put _ (some 14) _=_
  simp only [Act.put,tS_,tZ_,tC_,i64_w,i32_w];rfl
 refine one_ (i:=5) (N:=some 16) #[T_,T_,T_,T_,T_,T_,F_,F_,F_] rfl rfl (one_of HT_.out (by kernel_rfl)) (by decide) (fun K hK=>?_)
 refine goes_ Try.func32 (by kernel_rfl) rfl #[.int .i64 a2] (by rfl) rfl rfl (by (try simp only [mA_,mC_,mN_]);first|done|rfl|(simp only [dL_,kL_];rfl)) ?_
 with_reducible refine (r06_U.calls a2 t381 _ A6.out).mono ?_
 rintro e w38 ⟨rfl,hb⟩;refine ⟨_,rfl,?_⟩
 have n0_:=Aside0.mk (blk_below (by (with_reducible repeat first|apply bN_|apply bD_|apply bA_);exact BK370.out) hb)
 have n1_:=Aside0.mk (blk_below (by (with_reducible repeat first|apply bN_|apply bD_|apply bA_);exact BK371.out) hb)
 have n2_:=Aside0.mk (blk_below (by (with_reducible repeat first|apply bN_|apply bD_|apply bA_);exact BK372.out) hb)
 have n3_:=Aside0.mk (below_step (by repeat first|(with_reducible first|exact HB.out|apply lA_|apply lN_|apply lD_|refine lS_ ?_ GE370.out|refine lS_ ?_ GE371.out|refine lS_ ?_ GE372.out)|exact HB.out) hb)
 clear BK370;clear BK371;clear BK372;clear HB;have BK370:=n0_;have BK371:=n1_;have BK372:=n2_;have HB:=n3_;clear n0_ n1_ n2_ n3_
 (try clear hb)
 (try clear hb2)
 (try clear hk)
 (try clear hi)
 refine hK.out _ _ ⟨(blk_cell BK370.out 0).trans rfl,(blk_cell BK370.out 1).trans rfl,(blk_cell BK370.out 2).trans rfl,(blk_cell BK370.out 3).trans rfl,(blk_cell BK371.out 0).trans rfl,(blk_cell BK371.out 1).trans rfl,(blk_cell BK371.out 2).trans rfl,(blk_cell BK371.out 3).trans rfl⟩ (fun hHeld=>?_)
 clear hK K;refine norm_ (a':=?_) ?_ ?_;rotate_left
 ·show Act.put _ (some 16) _=_
  simp only [Act.put,tS_,tZ_,tC_,i64_w,i32_w];rfl
 refine last_ (i:=6) (N:=none) #[T_,T_,T_,T_,T_,T_,T_,F_,F_] rfl rfl (one_of HT_.out (by kernel_rfl)) (by decide) (fun K hK=>?_)
 have hs39:w38.cell? ⟨gb370,0,none⟩=some (.int .i64 a0_0):=(blk_cell BK370.out 0).trans rfl;have hfs39:=blk_frozen BK370.out 0;have hns39_1:=NB371_370.out;have hns39_2:=NB372_370.out;have hms39_1:=NB370_371.out;have hms39_2:=NB370_372.out;have hs40:w38.cell? ⟨gb370,1,none⟩=some (.int .i64 a0_1):=(blk_cell BK370.out 1).trans rfl;have hfs40:=blk_frozen BK370.out 1;have hns40_1:=NB371_370.out;have hns40_2:=NB372_370.out;have hms40_1:=NB370_371.out;have hms40_2:=NB370_372.out;have hs41:w38.cell? ⟨gb370,2,none⟩=some (.int .i64 a0_2):=(blk_cell BK370.out 2).trans rfl;have hfs41:=blk_frozen BK370.out 2;have hns41_1:=NB371_370.out;have hns41_2:=NB372_370.out;have hms41_1:=NB370_371.out;have hms41_2:=NB370_372.out;have hs42:w38.cell? ⟨gb370,3,none⟩=some (.int .i64 a0_3):=(blk_cell BK370.out 3).trans rfl;have hfs42:=blk_frozen BK370.out 3;have hns42_1:=NB371_370.out;have hns42_2:=NB372_370.out;have hms42_1:=NB370_371.out;have hms42_2:=NB370_372.out
 refine skip_ (w1:=?_) (by rfl) rfl ?_ ?_
 rotate_left
 ·go_simp
  rfl
 refine hK.out _ _ ?_;clear hK K
 refine last_ (i:=7) (N:=none) #[T_,T_,T_,T_,T_,T_,T_,T_,F_] rfl rfl (one_of HT_.out (by kernel_rfl)) (by decide) (fun K hK=>?_)
 have hs43:w38.cell? ⟨gb371,0,none⟩=some (.int .i64 a1_0):=(blk_cell BK371.out 0).trans rfl;have hfs43:=blk_frozen BK371.out 0;have hns43_0:=NB370_371.out;have hns43_2:=NB372_371.out;have hms43_0:=NB371_370.out;have hms43_2:=NB371_372.out;have hs44:w38.cell? ⟨gb371,1,none⟩=some (.int .i64 a1_1):=(blk_cell BK371.out 1).trans rfl;have hfs44:=blk_frozen BK371.out 1;have hns44_0:=NB370_371.out;have hns44_2:=NB372_371.out;have hms44_0:=NB371_370.out;have hms44_2:=NB371_372.out;have hs45:w38.cell? ⟨gb371,2,none⟩=some (.int .i64 a1_2):=(blk_cell BK371.out 2).trans rfl;have hfs45:=blk_frozen BK371.out 2;have hns45_0:=NB370_371.out;have hns45_2:=NB372_371.out;have hms45_0:=NB371_370.out;have hms45_2:=NB371_372.out;have hs46:w38.cell? ⟨gb371,3,none⟩=some (.int .i64 a1_3):=(blk_cell BK371.out 3).trans rfl;have hfs46:=blk_frozen BK371.out 3;have hns46_0:=NB370_371.out;have hns46_2:=NB372_371.out;have hms46_0:=NB371_370.out;have hms46_2:=NB371_372.out
 refine skip_ (w1:=?_) (by rfl) rfl ?_ ?_
 rotate_left
 ·go_simp
  rfl
 refine hK.out _ _ ?_;clear hK K
 refine pure_ (i:=8) (N:=some 2) (v:=?_) (a':=?_) #[T_,T_,T_,T_,T_,T_,T_,T_,T_] rfl rfl (any_of HT_.out (by kernel_rfl)) (fun _ _ _ h=>h) (Or.inl ⟨by rfl,?_⟩) ?_ ?_
 rotate_left
 ·intro w'
  go_simp
  with_reducible rfl
 rotate_left
 ·simp only [Act.put,tS_,tZ_,tC_,i64_w,i32_w]
  rfl
 refine done_ (done_of HT_.out (by kernel_rfl)) ?_
 try go_wp2
 have n0_:Aside0 (((((((((w38.setCell ⟨gb370,0,none⟩ (.int .i64 t373)).setCell ⟨gb370,1,none⟩ (.int .i64 t374)).setCell ⟨gb370,2,none⟩ (.int .i64 t375)).setCell ⟨gb370,3,none⟩ (.int .i64 t376)).setCell ⟨gb371,0,none⟩ (.int .i64 t377)).setCell ⟨gb371,1,none⟩ (.int .i64 t378)).setCell ⟨gb371,2,none⟩ (.int .i64 t379)).setCell ⟨gb371,3,none⟩ (.int .i64 t380)).heap[gb370]? = some (.cells #[.int .i64 t373,.int .i64 t374,.int .i64 t375,.int .i64 t376] 38 (0,0))):=⟨by (with_reducible repeat first|apply bN_|apply bD_|apply bA_);refine blk_far ?_ NB370_371.out _;(with_reducible repeat first|apply bN_|apply bD_|apply bA_);refine blk_far ?_ NB370_371.out _;(with_reducible repeat first|apply bN_|apply bD_|apply bA_);refine blk_far ?_ NB370_371.out _;(with_reducible repeat first|apply bN_|apply bD_|apply bA_);refine blk_far ?_ NB370_371.out _;(with_reducible repeat first|apply bN_|apply bD_|apply bA_);refine blk_put (cs:=#[.int .i64 t373,.int .i64 t374,.int .i64 t375,.int .i64 a0_3]) ?_ 3 _ rfl;(with_reducible repeat first|apply bN_|apply bD_|apply bA_);refine blk_put (cs:=#[.int .i64 t373,.int .i64 t374,.int .i64 a0_2,.int .i64 a0_3]) ?_ 2 _ rfl;(with_reducible repeat first|apply bN_|apply bD_|apply bA_);refine blk_put (cs:=#[.int .i64 t373,.int .i64 a0_1,.int .i64 a0_2,.int .i64 a0_3]) ?_ 1 _ rfl;(with_reducible repeat first|apply bN_|apply bD_|apply bA_);refine blk_put (cs:=#[.int .i64 a0_0,.int .i64 a0_1,.int .i64 a0_2,.int .i64 a0_3]) ?_ 0 _ rfl;(with_reducible repeat first|apply bN_|apply bD_|apply bA_);exact BK370.out⟩
 have n1_:Aside0 (((((((((w38.setCell ⟨gb370,0,none⟩ (.int .i64 t373)).setCell ⟨gb370,1,none⟩ (.int .i64 t374)).setCell ⟨gb370,2,none⟩ (.int .i64 t375)).setCell ⟨gb370,3,none⟩ (.int .i64 t376)).setCell ⟨gb371,0,none⟩ (.int .i64 t377)).setCell ⟨gb371,1,none⟩ (.int .i64 t378)).setCell ⟨gb371,2,none⟩ (.int .i64 t379)).setCell ⟨gb371,3,none⟩ (.int .i64 t380)).heap[gb371]? = some (.cells #[.int .i64 t377,.int .i64 t378,.int .i64 t379,.int .i64 t380] 38 (0,0))):=⟨by (with_reducible repeat first|apply bN_|apply bD_|apply bA_);refine blk_put (cs:=#[.int .i64 t377,.int .i64 t378,.int .i64 t379,.int .i64 a1_3]) ?_ 3 _ rfl;(with_reducible repeat first|apply bN_|apply bD_|apply bA_);refine blk_put (cs:=#[.int .i64 t377,.int .i64 t378,.int .i64 a1_2,.int .i64 a1_3]) ?_ 2 _ rfl;(with_reducible repeat first|apply bN_|apply bD_|apply bA_);refine blk_put (cs:=#[.int .i64 t377,.int .i64 a1_1,.int .i64 a1_2,.int .i64 a1_3]) ?_ 1 _ rfl;(with_reducible repeat first|apply bN_|apply bD_|apply bA_);refine blk_put (cs:=#[.int .i64 a1_0,.int .i64 a1_1,.int .i64 a1_2,.int .i64 a1_3]) ?_ 0 _ rfl;(with_reducible repeat first|apply bN_|apply bD_|apply bA_);refine blk_far ?_ NB371_370.out _;(with_reducible repeat first|apply bN_|apply bD_|apply bA_);refine blk_far ?_ NB371_370.out _;(with_reducible repeat first|apply bN_|apply bD_|apply bA_);refine blk_far ?_ NB371_370.out _;(with_reducible repeat first|apply bN_|apply bD_|apply bA_);refine blk_far ?_ NB371_370.out _;(with_reducible repeat first|apply bN_|apply bD_|apply bA_);exact BK371.out⟩
 have n2_:Aside0 (((((((((w38.setCell ⟨gb370,0,none⟩ (.int .i64 t373)).setCell ⟨gb370,1,none⟩ (.int .i64 t374)).setCell ⟨gb370,2,none⟩ (.int .i64 t375)).setCell ⟨gb370,3,none⟩ (.int .i64 t376)).setCell ⟨gb371,0,none⟩ (.int .i64 t377)).setCell ⟨gb371,1,none⟩ (.int .i64 t378)).setCell ⟨gb371,2,none⟩ (.int .i64 t379)).setCell ⟨gb371,3,none⟩ (.int .i64 t380)).heap[gb372]? = some (.cells #[.int .i64 0,.int .i64 0,.int .i64 0,.int .i64 0] 38 (0,0))):=⟨by (with_reducible repeat first|apply bN_|apply bD_|apply bA_);refine blk_far ?_ NB372_371.out _;(with_reducible repeat first|apply bN_|apply bD_|apply bA_);refine blk_far ?_ NB372_371.out _;(with_reducible repeat first|apply bN_|apply bD_|apply bA_);refine blk_far ?_ NB372_371.out _;(with_reducible repeat first|apply bN_|apply bD_|apply bA_);refine blk_far ?_ NB372_371.out _;(with_reducible repeat first|apply bN_|apply bD_|apply bA_);refine blk_far ?_ NB372_370.out _;(with_reducible repeat first|apply bN_|apply bD_|apply bA_);refine blk_far ?_ NB372_370.out _;(with_reducible repeat first|apply bN_|apply bD_|apply bA_);refine blk_far ?_ NB372_370.out _;(with_reducible repeat first|apply bN_|apply bD_|apply bA_);refine blk_far ?_ NB372_370.out _;(with_reducible repeat first|apply bN_|apply bD_|apply bA_);exact BK372.out⟩
 have n3_:Aside0 (Below w.heap.size w ((((((((w38.setCell ⟨gb370,0,none⟩ (.int .i64 t373)).setCell ⟨gb370,1,none⟩ (.int .i64 t374)).setCell ⟨gb370,2,none⟩ (.int .i64 t375)).setCell ⟨gb370,3,none⟩ (.int .i64 t376)).setCell ⟨gb371,0,none⟩ (.int .i64 t377)).setCell ⟨gb371,1,none⟩ (.int .i64 t378)).setCell ⟨gb371,2,none⟩ (.int .i64 t379)).setCell ⟨gb371,3,none⟩ (.int .i64 t380))):=⟨by repeat first|(with_reducible first|exact HB.out|apply lA_|apply lN_|apply lD_|refine lS_ ?_ GE370.out|refine lS_ ?_ GE371.out|refine lS_ ?_ GE372.out)|exact HB.out⟩
 (try clear BK370)
 (try clear BK371)
 (try clear BK372)
 (try clear HB)
 generalize ((((((((w38.setCell ⟨gb370,0,none⟩ (.int .i64 t373)).setCell ⟨gb370,1,none⟩ (.int .i64 t374)).setCell ⟨gb370,2,none⟩ (.int .i64 t375)).setCell ⟨gb370,3,none⟩ (.int .i64 t376)).setCell ⟨gb371,0,none⟩ (.int .i64 t377)).setCell ⟨gb371,1,none⟩ (.int .i64 t378)).setCell ⟨gb371,2,none⟩ (.int .i64 t379)).setCell ⟨gb371,3,none⟩ (.int .i64 t380))=w47 at n0_ n1_ n2_ n3_ ⊢
 have BK370:=n0_;have BK371:=n1_;have BK372:=n2_;have HB:=n3_;clear n0_ n1_ n2_ n3_;have n0_:=Aside0.mk (blk_drew BK370.out);have n1_:=Aside0.mk (blk_drew BK371.out);have n2_:=Aside0.mk (blk_drew BK372.out);have n3_:=Aside0.mk (below_drew1 HB.out);clear BK370;clear BK371;clear BK372;clear HB;have BK370:=n0_;have BK371:=n1_;have BK372:=n2_;have HB:=n3_;clear n0_ n1_ n2_ n3_
 refine start_ (n:=11) (S:=fun w'=>w'.cell? ⟨gb370,0,none⟩=some (.int .i64 t373)∧w'.cell? ⟨gb370,1,none⟩=some (.int .i64 t374)∧w'.cell? ⟨gb370,2,none⟩=some (.int .i64 t375)∧w'.cell? ⟨gb370,3,none⟩=some (.int .i64 t376)∧w'.cell? ⟨gb371,0,none⟩=some (.int .i64 t377)∧w'.cell? ⟨gb371,1,none⟩=some (.int .i64 t378)∧w'.cell? ⟨gb371,2,none⟩=some (.int .i64 t379)∧w'.cell? ⟨gb371,3,none⟩=some (.int .i64 t380)) (ds:=[]) #[F_,F_,F_,F_,F_,F_,F_,F_,F_,F_,F_] (by kernel_rfl) rfl rfl ⟨(blk_cell BK370.out 0).trans rfl,(blk_cell BK370.out 1).trans rfl,(blk_cell BK370.out 2).trans rfl,(blk_cell BK370.out 3).trans rfl,(blk_cell BK371.out 0).trans rfl,(blk_cell BK371.out 1).trans rfl,(blk_cell BK371.out 2).trans rfl,(blk_cell BK371.out 3).trans rfl⟩ (fun hHeld=>?_);refine with_tabW r06_Mix.tab2 r06_Mix.bits2 (fun HT_ HW_=>?_)
 generalize w47.drew=w48 at BK370 BK371 BK372 HB hHeld ⊢
 refine pure_ (i:=0) (N:=some 17) (v:=?_) (a':=?_) #[T_,F_,F_,F_,F_,F_,F_,F_,F_,F_,F_] rfl rfl (any_of HT_.out (by kernel_rfl)) (fun _ _ _ h=>h) (Or.inl ⟨by rfl,?_⟩) ?_ ?_
 rotate_left
 ·intro w'
  go_simp
  with_reducible rfl
 rotate_left
 ·simp only [Act.put,tS_,tZ_,tC_,i64_w,i32_w]
  rfl
 refine pure_ (i:=2) (N:=some 19) (v:=?_) (a':=?_) #[T_,F_,T_,F_,F_,F_,F_,F_,F_,F_,F_] rfl rfl (any_of HT_.out (by kernel_rfl)) (fun _ _ _ h=>h) (Or.inl ⟨by rfl,?_⟩) ?_ ?_
 rotate_left
 ·intro w'
  go_simp
  with_reducible rfl
 rotate_left
 ·simp only [Act.put,tS_,tZ_,tC_,i64_w,i32_w]
  rfl
 refine pure_ (i:=3) (N:=some 20) (v:=?_) (a':=?_) #[T_,F_,T_,T_,F_,F_,F_,F_,F_,F_,F_] rfl rfl (any_of HT_.out (by kernel_rfl)) (fun _ _ _ h=>h) (Or.inl ⟨by rfl,?_⟩) ?_ ?_
 rotate_left
 ·intro w'
  go_simp
  with_reducible rfl
 rotate_left
 ·simp only [Act.put,tS_,tZ_,tC_,i64_w,i32_w]
  rfl
 refine pure_ (i:=5) (N:=some 22) (v:=?_) (a':=?_) #[T_,F_,T_,T_,F_,T_,F_,F_,F_,F_,F_] rfl rfl (any_of HT_.out (by kernel_rfl)) (fun _ _ _ h=>h) (Or.inl ⟨by rfl,?_⟩) ?_ ?_
 rotate_left
 ·intro w'
  go_simp
  with_reducible rfl
 rotate_left
 ·simp only [Act.put,tS_,tZ_,tC_,i64_w,i32_w]
  rfl
 refine pure_ (i:=7) (N:=some 24) (v:=?_) (a':=?_) #[T_,F_,T_,T_,F_,T_,F_,T_,F_,F_,F_] rfl rfl (any_of HT_.out (by kernel_rfl)) (fun _ _ _ h=>h) (Or.inl ⟨by rfl,?_⟩) ?_ ?_
 rotate_left
 ·intro w'
  go_simp
  with_reducible rfl
 rotate_left
 ·simp only [Act.put,tS_,tZ_,tC_,i64_w,i32_w]
  rfl
 refine take_ (i:=1) (N:=some 18) (v:=?_) (a':=?_) #[T_,T_,T_,T_,F_,T_,F_,T_,F_,F_,F_] rfl rfl (take_ofW HT_.out HW_.out (by kernel_rfl)) (fun _ _ _ h=>h) (Or.inl ⟨by rfl,?_⟩) hHeld ?_ ?_
 rotate_left
 ·rintro w' ⟨s0,s1,s2,s3,s4,s5,s6,s7⟩
  go_simp
  with_reducible rfl
 rotate_left
 ·simp only [Act.put,tS_,tZ_,tC_,i64_w,i32_w]
  rfl
 refine pure_ (i:=4) (N:=some 21) (v:=?_) (a':=?_) #[T_,T_,T_,T_,T_,T_,F_,T_,F_,F_,F_] rfl rfl (any_of HT_.out (by kernel_rfl)) (fun _ _ _ h=>h) (Or.inl ⟨by rfl,?_⟩) ?_ ?_
 rotate_left
 ·intro w'
  go_simp
  with_reducible rfl
 rotate_left
 ·simp only [Act.put,tS_,tZ_,tC_,i64_w,i32_w]
  rfl
 refine pure_ (i:=9) (N:=some 7) (v:=?_) (a':=?_) #[T_,T_,T_,T_,T_,T_,F_,T_,F_,T_,F_] rfl rfl (any_of HT_.out (by kernel_rfl)) (fun _ _ _ h=>h) (Or.inl ⟨by rfl,?_⟩) ?_ ?_
 rotate_left
 ·intro w'
  go_simp
  with_reducible rfl
 rotate_left
 ·simp only [Act.put,tS_,tZ_,tC_,i64_w,i32_w]
  rfl
 refine take_ (i:=6) (N:=some 23) (v:=?_) (a':=?_) #[T_,T_,T_,T_,T_,T_,T_,T_,F_,T_,F_] rfl rfl (take_ofW HT_.out HW_.out (by kernel_rfl)) (fun _ _ _ h=>h) (Or.inl ⟨by rfl,?_⟩) hHeld ?_ ?_
 rotate_left
 ·rintro w' ⟨s0,s1,s2,s3,s4,s5,s6,s7⟩
  go_simp
  with_reducible rfl
 rotate_left
 ·simp only [Act.put,tS_,tZ_,tC_,i64_w,i32_w]
  rfl
 refine pure_ (i:=8) (N:=some 25) (v:=?_) (a':=?_) #[T_,T_,T_,T_,T_,T_,T_,T_,T_,T_,F_] rfl rfl (any_of HT_.out (by kernel_rfl)) (fun _ _ _ h=>h) (Or.inl ⟨by rfl,?_⟩) ?_ ?_
 rotate_left
 ·intro w'
  go_simp
  with_reducible rfl
 rotate_left
 ·simp only [Act.put,tS_,tZ_,tC_,i64_w,i32_w]
  rfl
 refine pure_ (i:=10) (N:=some 8) (v:=?_) (a':=?_) #[T_,T_,T_,T_,T_,T_,T_,T_,T_,T_,T_] rfl rfl (any_of HT_.out (by kernel_rfl)) (fun _ _ _ h=>h) (Or.inl ⟨by rfl,?_⟩) ?_ ?_
 rotate_left
 ·intro w'
  go_simp
  with_reducible rfl
 rotate_left
 ·simp only [Act.put,tS_,tZ_,tC_,i64_w,i32_w]
  rfl
 refine done_ (done_of HT_.out (by kernel_rfl)) ?_
 try go_wp2_with (first|((with_reducible refine gate_callee (f:=34) rfl ?_);refine goesL_ (some 30) rfl rfl Try.func34 (by kernel_rfl) rfl #[.int .i64 (wrap64 ((wrap64 (t376*(wrap64 (65535-t381))))+(wrap64 (t380*t381)))),.int .i64 65535] rfl (by (try simp only [mA_,mC_,mN_]);first|done|rfl|(simp only [dL_,kL_];rfl)) ?_;(with_reducible refine (r01_Div.calls k (wrap64 ((wrap64 (t376*(wrap64 (65535-t381))))+(wrap64 (t380*t381)))) 65535 t382 _ A7.out).mono ?_);rintro e w' ⟨rfl,⟨nd,rfl⟩⟩;refine ⟨_,rfl,?_⟩;(try (rw [drewN_self w48];generalize hq_:World.drewN w48 _=w48;have n0_:Aside0 (w48.heap[gb370]? = some (.cells #[.int .i64 t373,.int .i64 t374,.int .i64 t375,.int .i64 t376] 38 (0,0))):=⟨by rw [← hq_];exact (by (with_reducible repeat first|apply bN_|apply bD_|apply bA_);exact BK370.out)⟩;have n1_:Aside0 (w48.heap[gb371]? = some (.cells #[.int .i64 t377,.int .i64 t378,.int .i64 t379,.int .i64 t380] 38 (0,0))):=⟨by rw [← hq_];exact (by (with_reducible repeat first|apply bN_|apply bD_|apply bA_);exact BK371.out)⟩;have n2_:Aside0 (w48.heap[gb372]? = some (.cells #[.int .i64 0,.int .i64 0,.int .i64 0,.int .i64 0] 38 (0,0))):=⟨by rw [← hq_];exact (by (with_reducible repeat first|apply bN_|apply bD_|apply bA_);exact BK372.out)⟩;have n3_:Aside0 (Below w.heap.size w w48):=⟨by rw [← hq_];exact (by repeat first|(with_reducible first|exact HB.out|apply lA_|apply lN_|apply lD_|refine lS_ ?_ GE370.out|refine lS_ ?_ GE371.out|refine lS_ ?_ GE372.out)|exact HB.out)⟩;clear BK370 BK371 BK372 HB hq_;have BK370:=n0_;have BK371:=n1_;have BK372:=n2_;have HB:=n3_;clear n0_ n1_ n2_ n3_))))
 have n0_:=Aside0.mk (blk_drew BK370.out);have n1_:=Aside0.mk (blk_drew BK371.out);have n2_:=Aside0.mk (blk_drew BK372.out);have n3_:=Aside0.mk (below_drew1 HB.out);clear BK370;clear BK371;clear BK372;clear HB;have BK370:=n0_;have BK371:=n1_;have BK372:=n2_;have HB:=n3_;clear n0_ n1_ n2_ n3_
 refine start_ (n:=36) (S:=fun w'=>w'.cell? ⟨gb370,0,none⟩=some (.int .i64 t373)∧w'.cell? ⟨gb370,1,none⟩=some (.int .i64 t374)∧w'.cell? ⟨gb370,2,none⟩=some (.int .i64 t375)∧w'.cell? ⟨gb370,3,none⟩=some (.int .i64 t376)∧w'.cell? ⟨gb371,0,none⟩=some (.int .i64 t377)∧w'.cell? ⟨gb371,1,none⟩=some (.int .i64 t378)∧w'.cell? ⟨gb371,2,none⟩=some (.int .i64 t379)∧w'.cell? ⟨gb371,3,none⟩=some (.int .i64 t380)) (ds:=[]) #[F_,F_,F_,F_,F_,F_,F_,F_,F_,F_,F_,F_,F_,F_,F_,F_,F_,F_,F_,F_,F_,F_,F_,F_,F_,F_,F_,F_,F_,F_,F_,F_,F_,F_,F_,F_] (by kernel_rfl) rfl rfl ⟨(blk_cell BK370.out 0).trans rfl,(blk_cell BK370.out 1).trans rfl,(blk_cell BK370.out 2).trans rfl,(blk_cell BK370.out 3).trans rfl,(blk_cell BK371.out 0).trans rfl,(blk_cell BK371.out 1).trans rfl,(blk_cell BK371.out 2).trans rfl,(blk_cell BK371.out 3).trans rfl⟩ (fun hHeld=>?_);refine with_tabW r06_Mix.tab7 r06_Mix.bits7 (fun HT_ HW_=>?_)
 generalize w48.drew=w49 at BK370 BK371 BK372 HB hHeld ⊢
 refine pure_ (i:=0) (N:=some 34) (v:=?_) (a':=?_) #[T_,F_,F_,F_,F_,F_,F_,F_,F_,F_,F_,F_,F_,F_,F_,F_,F_,F_,F_,F_,F_,F_,F_,F_,F_,F_,F_,F_,F_,F_,F_,F_,F_,F_,F_,F_] rfl rfl (any_of HT_.out (by kernel_rfl)) (fun _ _ _ h=>h) (Or.inl ⟨by rfl,?_⟩) ?_ ?_
 rotate_left
 ·intro w'
  go_simp
  with_reducible rfl
 rotate_left
 ·simp only [Act.put,tS_,tZ_,tC_,i64_w,i32_w]
  rfl
 refine pure_ (i:=2) (N:=some 36) (v:=?_) (a':=?_) #[T_,F_,T_,F_,F_,F_,F_,F_,F_,F_,F_,F_,F_,F_,F_,F_,F_,F_,F_,F_,F_,F_,F_,F_,F_,F_,F_,F_,F_,F_,F_,F_,F_,F_,F_,F_] rfl rfl (any_of HT_.out (by kernel_rfl)) (fun _ _ _ h=>h) (Or.inl ⟨by rfl,?_⟩) ?_ ?_
 rotate_left
 ·intro w'
  go_simp
  with_reducible rfl
 rotate_left
 ·simp only [Act.put,tS_,tZ_,tC_,i64_w,i32_w]
  rfl
 refine pure_ (i:=4) (N:=some 38) (v:=?_) (a':=?_) #[T_,F_,T_,F_,T_,F_,F_,F_,F_,F_,F_,F_,F_,F_,F_,F_,F_,F_,F_,F_,F_,F_,F_,F_,F_,F_,F_,F_,F_,F_,F_,F_,F_,F_,F_,F_] rfl rfl (any_of HT_.out (by kernel_rfl)) (fun _ _ _ h=>h) (Or.inl ⟨by rfl,?_⟩) ?_ ?_
 rotate_left
 ·intro w'
  go_simp
  with_reducible rfl
 rotate_left
 ·simp only [Act.put,tS_,tZ_,tC_,i64_w,i32_w]
  rfl
 refine pure_ (i:=6) (N:=some 40) (v:=?_) (a':=?_) #[T_,F_,T_,F_,T_,F_,T_,F_,F_,F_,F_,F_,F_,F_,F_,F_,F_,F_,F_,F_,F_,F_,F_,F_,F_,F_,F_,F_,F_,F_,F_,F_,F_,F_,F_,F_] rfl rfl (any_of HT_.out (by kernel_rfl)) (fun _ _ _ h=>h) (Or.inl ⟨by rfl,?_⟩) ?_ ?_
 rotate_left
 ·intro w'
  go_simp
  with_reducible rfl
 rotate_left
 ·simp only [Act.put,tS_,tZ_,tC_,i64_w,i32_w]
  rfl
 refine pure_ (i:=9) (N:=some 43) (v:=?_) (a':=?_) #[T_,F_,T_,F_,T_,F_,T_,F_,F_,T_,F_,F_,F_,F_,F_,F_,F_,F_,F_,F_,F_,F_,F_,F_,F_,F_,F_,F_,F_,F_,F_,F_,F_,F_,F_,F_] rfl rfl (any_of HT_.out (by kernel_rfl)) (fun _ _ _ h=>h) (Or.inl ⟨by rfl,?_⟩) ?_ ?_
 rotate_left
 ·intro w'
  go_simp
  with_reducible rfl
 rotate_left
 ·simp only [Act.put,tS_,tZ_,tC_,i64_w,i32_w]
  rfl
 refine pure_ (i:=11) (N:=some 45) (v:=?_) (a':=?_) #[T_,F_,T_,F_,T_,F_,T_,F_,F_,T_,F_,T_,F_,F_,F_,F_,F_,F_,F_,F_,F_,F_,F_,F_,F_,F_,F_,F_,F_,F_,F_,F_,F_,F_,F_,F_] rfl rfl (any_of HT_.out (by kernel_rfl)) (fun _ _ _ h=>h) (Or.inl ⟨by rfl,?_⟩) ?_ ?_
 rotate_left
 ·intro w'
  go_simp
  with_reducible rfl
 rotate_left
 ·simp only [Act.put,tS_,tZ_,tC_,i64_w,i32_w]
  rfl
 refine pure_ (i:=13) (N:=some 47) (v:=?_) (a':=?_) #[T_,F_,T_,F_,T_,F_,T_,F_,F_,T_,F_,T_,F_,T_,F_,F_,F_,F_,F_,F_,F_,F_,F_,F_,F_,F_,F_,F_,F_,F_,F_,F_,F_,F_,F_,F_] rfl rfl (any_of HT_.out (by kernel_rfl)) (fun _ _ _ h=>h) (Or.inl ⟨by rfl,?_⟩) ?_ ?_
 rotate_left
 ·intro w'
  go_simp
  with_reducible rfl
 rotate_left
 ·simp only [Act.put,tS_,tZ_,tC_,i64_w,i32_w]
  rfl
 refine pure_ (i:=15) (N:=some 49) (v:=?_) (a':=?_) #[T_,F_,T_,F_,T_,F_,T_,F_,F_,T_,F_,T_,F_,T_,F_,T_,F_,F_,F_,F_,F_,F_,F_,F_,F_,F_,F_,F_,F_,F_,F_,F_,F_,F_,F_,F_] rfl rfl (any_of HT_.out (by kernel_rfl)) (fun _ _ _ h=>h) (Or.inl ⟨by rfl,?_⟩) ?_ ?_
 rotate_left
 ·intro w'
  go_simp
  with_reducible rfl
 rotate_left
 ·simp only [Act.put,tS_,tZ_,tC_,i64_w,i32_w]
  rfl
 refine pure_ (i:=17) (N:=some 51) (v:=?_) (a':=?_) #[T_,F_,T_,F_,T_,F_,T_,F_,F_,T_,F_,T_,F_,T_,F_,T_,F_,T_,F_,F_,F_,F_,F_,F_,F_,F_,F_,F_,F_,F_,F_,F_,F_,F_,F_,F_] rfl rfl (any_of HT_.out (by kernel_rfl)) (fun _ _ _ h=>h) (Or.inl ⟨by rfl,?_⟩) ?_ ?_
 rotate_left
 ·intro w'
  go_simp
  with_reducible rfl
 rotate_left
 ·simp only [Act.put,tS_,tZ_,tC_,i64_w,i32_w]
  rfl
 refine pure_ (i:=20) (N:=some 54) (v:=?_) (a':=?_) #[T_,F_,T_,F_,T_,F_,T_,F_,F_,T_,F_,T_,F_,T_,F_,T_,F_,T_,F_,F_,T_,F_,F_,F_,F_,F_,F_,F_,F_,F_,F_,F_,F_,F_,F_,F_] rfl rfl (any_of HT_.out (by kernel_rfl)) (fun _ _ _ h=>h) (Or.inl ⟨by rfl,?_⟩) ?_ ?_
 rotate_left
 ·intro w'
  go_simp
  with_reducible rfl
 rotate_left
 ·simp only [Act.put,tS_,tZ_,tC_,i64_w,i32_w]
  rfl
 refine pure_ (i:=22) (N:=some 56) (v:=?_) (a':=?_) #[T_,F_,T_,F_,T_,F_,T_,F_,F_,T_,F_,T_,F_,T_,F_,T_,F_,T_,F_,F_,T_,F_,T_,F_,F_,F_,F_,F_,F_,F_,F_,F_,F_,F_,F_,F_] rfl rfl (any_of HT_.out (by kernel_rfl)) (fun _ _ _ h=>h) (Or.inl ⟨by rfl,?_⟩) ?_ ?_
 rotate_left
 ·intro w'
  go_simp
  with_reducible rfl
 rotate_left
 ·simp only [Act.put,tS_,tZ_,tC_,i64_w,i32_w]
  rfl
 refine pure_ (i:=24) (N:=some 58) (v:=?_) (a':=?_) #[T_,F_,T_,F_,T_,F_,T_,F_,F_,T_,F_,T_,F_,T_,F_,T_,F_,T_,F_,F_,T_,F_,T_,F_,T_,F_,F_,F_,F_,F_,F_,F_,F_,F_,F_,F_] rfl rfl (any_of HT_.out (by kernel_rfl)) (fun _ _ _ h=>h) (Or.inl ⟨by rfl,?_⟩) ?_ ?_
 rotate_left
 ·intro w'
  go_simp
  with_reducible rfl
 rotate_left
 ·simp only [Act.put,tS_,tZ_,tC_,i64_w,i32_w]
  rfl
 refine pure_ (i:=26) (N:=some 60) (v:=?_) (a':=?_) #[T_,F_,T_,F_,T_,F_,T_,F_,F_,T_,F_,T_,F_,T_,F_,T_,F_,T_,F_,F_,T_,F_,T_,F_,T_,F_,T_,F_,F_,F_,F_,F_,F_,F_,F_,F_] rfl rfl (any_of HT_.out (by kernel_rfl)) (fun _ _ _ h=>h) (Or.inl ⟨by rfl,?_⟩) ?_ ?_
 rotate_left
 ·intro w'
  go_simp
  with_reducible rfl
 rotate_left
 ·simp only [Act.put,tS_,tZ_,tC_,i64_w,i32_w]
  rfl
 refine pure_ (i:=28) (N:=some 62) (v:=?_) (a':=?_) #[T_,F_,T_,F_,T_,F_,T_,F_,F_,T_,F_,T_,F_,T_,F_,T_,F_,T_,F_,F_,T_,F_,T_,F_,T_,F_,T_,F_,T_,F_,F_,F_,F_,F_,F_,F_] rfl rfl (any_of HT_.out (by kernel_rfl)) (fun _ _ _ h=>h) (Or.inl ⟨by rfl,?_⟩) ?_ ?_
 rotate_left
 ·intro w'
  go_simp
  with_reducible rfl
 rotate_left
 ·simp only [Act.put,tS_,tZ_,tC_,i64_w,i32_w]
  rfl
 refine pure_ (i:=31) (N:=some 65) (v:=?_) (a':=?_) #[T_,F_,T_,F_,T_,F_,T_,F_,F_,T_,F_,T_,F_,T_,F_,T_,F_,T_,F_,F_,T_,F_,T_,F_,T_,F_,T_,F_,T_,F_,F_,T_,F_,F_,F_,F_] rfl rfl (any_of HT_.out (by kernel_rfl)) (fun _ _ _ h=>h) (Or.inl ⟨by rfl,?_⟩) ?_ ?_
 rotate_left
 ·intro w'
  go_simp
  with_reducible rfl
 rotate_left
 ·simp only [Act.put,tS_,tZ_,tC_,i64_w,i32_w]
  rfl
 refine pure_ (i:=33) (N:=some 67) (v:=?_) (a':=?_) #[T_,F_,T_,F_,T_,F_,T_,F_,F_,T_,F_,T_,F_,T_,F_,T_,F_,T_,F_,F_,T_,F_,T_,F_,T_,F_,T_,F_,T_,F_,F_,T_,F_,T_,F_,F_] rfl rfl (any_of HT_.out (by kernel_rfl)) (fun _ _ _ h=>h) (Or.inl ⟨by rfl,?_⟩) ?_ ?_
 rotate_left
 ·intro w'
  go_simp
  with_reducible rfl
 rotate_left
 ·simp only [Act.put,tS_,tZ_,tC_,i64_w,i32_w]
  rfl
 refine take_ (i:=1) (N:=some 35) (v:=?_) (a':=?_) #[T_,T_,T_,F_,T_,F_,T_,F_,F_,T_,F_,T_,F_,T_,F_,T_,F_,T_,F_,F_,T_,F_,T_,F_,T_,F_,T_,F_,T_,F_,F_,T_,F_,T_,F_,F_] rfl rfl (take_ofW HT_.out HW_.out (by kernel_rfl)) (fun _ _ _ h=>h) (Or.inl ⟨by rfl,?_⟩) hHeld ?_ ?_
 rotate_left
 ·rintro w' ⟨s0,s1,s2,s3,s4,s5,s6,s7⟩
  go_simp
  with_reducible rfl
 rotate_left
 ·simp only [Act.put,tS_,tZ_,tC_,i64_w,i32_w]
  rfl
 refine pure_ (i:=3) (N:=some 37) (v:=?_) (a':=?_) #[T_,T_,T_,T_,T_,F_,T_,F_,F_,T_,F_,T_,F_,T_,F_,T_,F_,T_,F_,F_,T_,F_,T_,F_,T_,F_,T_,F_,T_,F_,F_,T_,F_,T_,F_,F_] rfl rfl (any_of HT_.out (by kernel_rfl)) (fun _ _ _ h=>h) (Or.inl ⟨by rfl,?_⟩) ?_ ?_
 rotate_left
 ·intro w'
  go_simp
  with_reducible rfl
 rotate_left
 ·simp only [Act.put,tS_,tZ_,tC_,i64_w,i32_w]
  rfl
 refine take_ (i:=5) (N:=some 39) (v:=?_) (a':=?_) #[T_,T_,T_,T_,T_,T_,T_,F_,F_,T_,F_,T_,F_,T_,F_,T_,F_,T_,F_,F_,T_,F_,T_,F_,T_,F_,T_,F_,T_,F_,F_,T_,F_,T_,F_,F_] rfl rfl (take_ofW HT_.out HW_.out (by kernel_rfl)) (fun _ _ _ h=>h) (Or.inl ⟨by rfl,?_⟩) hHeld ?_ ?_
 rotate_left
 ·rintro w' ⟨s0,s1,s2,s3,s4,s5,s6,s7⟩
  go_simp
  with_reducible rfl
 rotate_left
 ·simp only [Act.put,tS_,tZ_,tC_,i64_w,i32_w]
  rfl
 refine pure_ (i:=7) (N:=some 41) (v:=?_) (a':=?_) #[T_,T_,T_,T_,T_,T_,T_,T_,F_,T_,F_,T_,F_,T_,F_,T_,F_,T_,F_,F_,T_,F_,T_,F_,T_,F_,T_,F_,T_,F_,F_,T_,F_,T_,F_,F_] rfl rfl (any_of HT_.out (by kernel_rfl)) (fun _ _ _ h=>h) (Or.inl ⟨by rfl,?_⟩) ?_ ?_
 rotate_left
 ·intro w'
  go_simp
  with_reducible rfl
 rotate_left
 ·simp only [Act.put,tS_,tZ_,tC_,i64_w,i32_w]
  rfl
 refine pure_ (i:=8) (N:=some 42) (v:=?_) (a':=?_) #[T_,T_,T_,T_,T_,T_,T_,T_,T_,T_,F_,T_,F_,T_,F_,T_,F_,T_,F_,F_,T_,F_,T_,F_,T_,F_,T_,F_,T_,F_,F_,T_,F_,T_,F_,F_] rfl rfl (any_of HT_.out (by kernel_rfl)) (fun _ _ _ h=>h) (Or.inl ⟨by rfl,?_⟩) ?_ ?_
 rotate_left
 ·intro w'
  go_simp
  with_reducible rfl
 rotate_left
 ·simp only [Act.put,tS_,tZ_,tC_,i64_w,i32_w]
  rfl
 refine take_ (i:=12) (N:=some 46) (v:=?_) (a':=?_) #[T_,T_,T_,T_,T_,T_,T_,T_,T_,T_,F_,T_,T_,T_,F_,T_,F_,T_,F_,F_,T_,F_,T_,F_,T_,F_,T_,F_,T_,F_,F_,T_,F_,T_,F_,F_] rfl rfl (take_ofW HT_.out HW_.out (by kernel_rfl)) (fun _ _ _ h=>h) (Or.inl ⟨by rfl,?_⟩) hHeld ?_ ?_
 rotate_left
 ·rintro w' ⟨s0,s1,s2,s3,s4,s5,s6,s7⟩
  go_simp
  with_reducible rfl
 rotate_left
 ·simp only [Act.put,tS_,tZ_,tC_,i64_w,i32_w]
  rfl
 refine pure_ (i:=14) (N:=some 48) (v:=?_) (a':=?_) #[T_,T_,T_,T_,T_,T_,T_,T_,T_,T_,F_,T_,T_,T_,T_,T_,F_,T_,F_,F_,T_,F_,T_,F_,T_,F_,T_,F_,T_,F_,F_,T_,F_,T_,F_,F_] rfl rfl (any_of HT_.out (by kernel_rfl)) (fun _ _ _ h=>h) (Or.inl ⟨by rfl,?_⟩) ?_ ?_
 rotate_left
 ·intro w'
  go_simp
  with_reducible rfl
 rotate_left
 ·simp only [Act.put,tS_,tZ_,tC_,i64_w,i32_w]
  rfl
 refine take_ (i:=16) (N:=some 50) (v:=?_) (a':=?_) #[T_,T_,T_,T_,T_,T_,T_,T_,T_,T_,F_,T_,T_,T_,T_,T_,T_,T_,F_,F_,T_,F_,T_,F_,T_,F_,T_,F_,T_,F_,F_,T_,F_,T_,F_,F_] rfl rfl (take_ofW HT_.out HW_.out (by kernel_rfl)) (fun _ _ _ h=>h) (Or.inl ⟨by rfl,?_⟩) hHeld ?_ ?_
 rotate_left
 ·rintro w' ⟨s0,s1,s2,s3,s4,s5,s6,s7⟩
  go_simp
  with_reducible rfl
 rotate_left
 ·simp only [Act.put,tS_,tZ_,tC_,i64_w,i32_w]
  rfl
 refine pure_ (i:=18) (N:=some 52) (v:=?_) (a':=?_) #[T_,T_,T_,T_,T_,T_,T_,T_,T_,T_,F_,T_,T_,T_,T_,T_,T_,T_,T_,F_,T_,F_,T_,F_,T_,F_,T_,F_,T_,F_,F_,T_,F_,T_,F_,F_] rfl rfl (any_of HT_.out (by kernel_rfl)) (fun _ _ _ h=>h) (Or.inl ⟨by rfl,?_⟩) ?_ ?_
 rotate_left
 ·intro w'
  go_simp
  with_reducible rfl
 rotate_left
 ·simp only [Act.put,tS_,tZ_,tC_,i64_w,i32_w]
  rfl
 refine pure_ (i:=19) (N:=some 53) (v:=?_) (a':=?_) #[T_,T_,T_,T_,T_,T_,T_,T_,T_,T_,F_,T_,T_,T_,T_,T_,T_,T_,T_,T_,T_,F_,T_,F_,T_,F_,T_,F_,T_,F_,F_,T_,F_,T_,F_,F_] rfl rfl (any_of HT_.out (by kernel_rfl)) (fun _ _ _ h=>h) (Or.inl ⟨by rfl,?_⟩) ?_ ?_
 rotate_left
 ·intro w'
  go_simp
  with_reducible rfl
 rotate_left
 ·simp only [Act.put,tS_,tZ_,tC_,i64_w,i32_w]
  rfl
 refine take_ (i:=23) (N:=some 57) (v:=?_) (a':=?_) #[T_,T_,T_,T_,T_,T_,T_,T_,T_,T_,F_,T_,T_,T_,T_,T_,T_,T_,T_,T_,T_,F_,T_,T_,T_,F_,T_,F_,T_,F_,F_,T_,F_,T_,F_,F_] rfl rfl (take_ofW HT_.out HW_.out (by kernel_rfl)) (fun _ _ _ h=>h) (Or.inl ⟨by rfl,?_⟩) hHeld ?_ ?_
 rotate_left
 ·rintro w' ⟨s0,s1,s2,s3,s4,s5,s6,s7⟩
  go_simp
  with_reducible rfl
 rotate_left
 ·simp only [Act.put,tS_,tZ_,tC_,i64_w,i32_w]
  rfl
 refine pure_ (i:=25) (N:=some 59) (v:=?_) (a':=?_) #[T_,T_,T_,T_,T_,T_,T_,T_,T_,T_,F_,T_,T_,T_,T_,T_,T_,T_,T_,T_,T_,F_,T_,T_,T_,T_,T_,F_,T_,F_,F_,T_,F_,T_,F_,F_] rfl rfl (any_of HT_.out (by kernel_rfl)) (fun _ _ _ h=>h) (Or.inl ⟨by rfl,?_⟩) ?_ ?_
 rotate_left
 ·intro w'
  go_simp
  with_reducible rfl
 rotate_left
 ·simp only [Act.put,tS_,tZ_,tC_,i64_w,i32_w]
  rfl
 refine take_ (i:=27) (N:=some 61) (v:=?_) (a':=?_) #[T_,T_,T_,T_,T_,T_,T_,T_,T_,T_,F_,T_,T_,T_,T_,T_,T_,T_,T_,T_,T_,F_,T_,T_,T_,T_,T_,T_,T_,F_,F_,T_,F_,T_,F_,F_] rfl rfl (take_ofW HT_.out HW_.out (by kernel_rfl)) (fun _ _ _ h=>h) (Or.inl ⟨by rfl,?_⟩) hHeld ?_ ?_
 rotate_left
 ·rintro w' ⟨s0,s1,s2,s3,s4,s5,s6,s7⟩
  go_simp
  with_reducible rfl
 rotate_left
 ·simp only [Act.put,tS_,tZ_,tC_,i64_w,i32_w]
  rfl
 refine pure_ (i:=29) (N:=some 63) (v:=?_) (a':=?_) #[T_,T_,T_,T_,T_,T_,T_,T_,T_,T_,F_,T_,T_,T_,T_,T_,T_,T_,T_,T_,T_,F_,T_,T_,T_,T_,T_,T_,T_,T_,F_,T_,F_,T_,F_,F_] rfl rfl (any_of HT_.out (by kernel_rfl)) (fun _ _ _ h=>h) (Or.inl ⟨by rfl,?_⟩) ?_ ?_
 rotate_left
 ·intro w'
  go_simp
  with_reducible rfl
 rotate_left
 ·simp only [Act.put,tS_,tZ_,tC_,i64_w,i32_w]
  rfl
 refine pure_ (i:=30) (N:=some 64) (v:=?_) (a':=?_) #[T_,T_,T_,T_,T_,T_,T_,T_,T_,T_,F_,T_,T_,T_,T_,T_,T_,T_,T_,T_,T_,F_,T_,T_,T_,T_,T_,T_,T_,T_,T_,T_,F_,T_,F_,F_] rfl rfl (any_of HT_.out (by kernel_rfl)) (fun _ _ _ h=>h) (Or.inl ⟨by rfl,?_⟩) ?_ ?_
 rotate_left
 ·intro w'
  go_simp
  with_reducible rfl
 rotate_left
 ·simp only [Act.put,tS_,tZ_,tC_,i64_w,i32_w]
  rfl
 refine one_ (i:=10) (N:=some 44) #[T_,T_,T_,T_,T_,T_,T_,T_,T_,T_,T_,T_,T_,T_,T_,T_,T_,T_,T_,T_,T_,F_,T_,T_,T_,T_,T_,T_,T_,T_,T_,T_,F_,T_,F_,F_] rfl rfl (one_of HT_.out (by kernel_rfl)) (by decide) (fun K hK=>?_)
 refine goes_ Try.func34 (by kernel_rfl) rfl #[.int .i64 (wrap64 ((wrap64 (t373*(wrap64 (t376*(wrap64 (65535-t381))))))+(wrap64 (t377*(wrap64 (t380*t381)))))),.int .i64 (wrap64 ((wrap64 (t376*(wrap64 (65535-t381))))+(wrap64 (t380*t381))))] (by rfl) rfl rfl (by (try simp only [mA_,mC_,mN_]);first|done|rfl|(simp only [dL_,kL_];rfl)) ?_
 with_reducible refine (r01_Div.calls k (wrap64 ((wrap64 (t373*(wrap64 (t376*(wrap64 (65535-t381))))))+(wrap64 (t377*(wrap64 (t380*t381)))))) (wrap64 ((wrap64 (t376*(wrap64 (65535-t381))))+(wrap64 (t380*t381)))) t383 _ A29.out).mono ?_
 rintro e w' ⟨rfl,⟨nd,rfl⟩⟩;refine ⟨_,rfl,?_⟩
 refine hK.out _ _ ⟨(blk_cell BK370.out 0).trans rfl,(blk_cell BK370.out 1).trans rfl,(blk_cell BK370.out 2).trans rfl,(blk_cell BK370.out 3).trans rfl,(blk_cell BK371.out 0).trans rfl,(blk_cell BK371.out 1).trans rfl,(blk_cell BK371.out 2).trans rfl,(blk_cell BK371.out 3).trans rfl⟩ (fun hHeld=>?_)
 clear hK K;refine norm_ (a':=?_) ?_ ?_;rotate_left
 ·show Act.put _ (some 44) _=_
  simp only [Act.put,tS_,tZ_,tC_,i64_w,i32_w];rfl
 refine one_ (i:=21) (N:=some 55) #[T_,T_,T_,T_,T_,T_,T_,T_,T_,T_,T_,T_,T_,T_,T_,T_,T_,T_,T_,T_,T_,T_,T_,T_,T_,T_,T_,T_,T_,T_,T_,T_,F_,T_,F_,F_] rfl rfl (one_of HT_.out (by kernel_rfl)) (by decide) (fun K hK=>?_)
 refine goes_ Try.func34 (by kernel_rfl) rfl #[.int .i64 (wrap64 ((wrap64 (t374*(wrap64 (t376*(wrap64 (65535-t381))))))+(wrap64 (t378*(wrap64 (t380*t381)))))),.int .i64 (wrap64 ((wrap64 (t376*(wrap64 (65535-t381))))+(wrap64 (t380*t381))))] (by rfl) rfl rfl (by (try simp only [mA_,mC_,mN_]);first|done|rfl|(simp only [dL_,kL_];rfl)) ?_
 with_reducible refine (r01_Div.calls k (wrap64 ((wrap64 (t374*(wrap64 (t376*(wrap64 (65535-t381))))))+(wrap64 (t378*(wrap64 (t380*t381)))))) (wrap64 ((wrap64 (t376*(wrap64 (65535-t381))))+(wrap64 (t380*t381)))) t384 _ A30.out).mono ?_
 rintro e w' ⟨rfl,⟨nd,rfl⟩⟩;refine ⟨_,rfl,?_⟩
 refine hK.out _ _ ⟨(blk_cell BK370.out 0).trans rfl,(blk_cell BK370.out 1).trans rfl,(blk_cell BK370.out 2).trans rfl,(blk_cell BK370.out 3).trans rfl,(blk_cell BK371.out 0).trans rfl,(blk_cell BK371.out 1).trans rfl,(blk_cell BK371.out 2).trans rfl,(blk_cell BK371.out 3).trans rfl⟩ (fun hHeld=>?_)
 clear hK K;refine norm_ (a':=?_) ?_ ?_;rotate_left
 ·show Act.put _ (some 55) _=_
  simp only [Act.put,tS_,tZ_,tC_,i64_w,i32_w];rfl
 refine one_ (i:=32) (N:=some 66) #[T_,T_,T_,T_,T_,T_,T_,T_,T_,T_,T_,T_,T_,T_,T_,T_,T_,T_,T_,T_,T_,T_,T_,T_,T_,T_,T_,T_,T_,T_,T_,T_,T_,T_,F_,F_] rfl rfl (one_of HT_.out (by kernel_rfl)) (by decide) (fun K hK=>?_)
 refine goes_ Try.func34 (by kernel_rfl) rfl #[.int .i64 (wrap64 ((wrap64 (t375*(wrap64 (t376*(wrap64 (65535-t381))))))+(wrap64 (t379*(wrap64 (t380*t381)))))),.int .i64 (wrap64 ((wrap64 (t376*(wrap64 (65535-t381))))+(wrap64 (t380*t381))))] (by rfl) rfl rfl (by (try simp only [mA_,mC_,mN_]);first|done|rfl|(simp only [dL_,kL_];rfl)) ?_
 with_reducible refine (r01_Div.calls k (wrap64 ((wrap64 (t375*(wrap64 (t376*(wrap64 (65535-t381))))))+(wrap64 (t379*(wrap64 (t380*t381)))))) (wrap64 ((wrap64 (t376*(wrap64 (65535-t381))))+(wrap64 (t380*t381)))) t385 _ A31.out).mono ?_
 rintro e w' ⟨rfl,⟨nd,rfl⟩⟩;refine ⟨_,rfl,?_⟩
 refine hK.out _ _ ⟨(blk_cell BK370.out 0).trans rfl,(blk_cell BK370.out 1).trans rfl,(blk_cell BK370.out 2).trans rfl,(blk_cell BK370.out 3).trans rfl,(blk_cell BK371.out 0).trans rfl,(blk_cell BK371.out 1).trans rfl,(blk_cell BK371.out 2).trans rfl,(blk_cell BK371.out 3).trans rfl⟩ (fun hHeld=>?_)
 clear hK K;refine norm_ (a':=?_) ?_ ?_;rotate_left
 ·show Act.put _ (some 66) _=_
  simp only [Act.put,tS_,tZ_,tC_,i64_w,i32_w];rfl
 refine pure_ (i:=34) (N:=some 68) (v:=?_) (a':=?_) #[T_,T_,T_,T_,T_,T_,T_,T_,T_,T_,T_,T_,T_,T_,T_,T_,T_,T_,T_,T_,T_,T_,T_,T_,T_,T_,T_,T_,T_,T_,T_,T_,T_,T_,T_,F_] rfl rfl (any_of HT_.out (by kernel_rfl)) (fun _ _ _ h=>h) (Or.inl ⟨by rfl,?_⟩) ?_ ?_
 rotate_left
 ·intro w'
  go_simp
  with_reducible rfl
 rotate_left
 ·simp only [Act.put,tS_,tZ_,tC_,i64_w,i32_w]
  rfl
 refine one_ (i:=35) (N:=none) #[T_,T_,T_,T_,T_,T_,T_,T_,T_,T_,T_,T_,T_,T_,T_,T_,T_,T_,T_,T_,T_,T_,T_,T_,T_,T_,T_,T_,T_,T_,T_,T_,T_,T_,T_,T_] rfl rfl (one_of HT_.out (by kernel_rfl)) (by decide) (fun K hK=>?_)
 have hs50:w49.cell? ⟨gb372,0,none⟩=some (.int .i64 0):=(blk_cell BK372.out 0).trans rfl;have hfs50:=blk_frozen BK372.out 0;have hns50_0:=NB370_372.out;have hns50_1:=NB371_372.out;have hms50_0:=NB372_370.out;have hms50_1:=NB372_371.out;have hs51:w49.cell? ⟨gb372,1,none⟩=some (.int .i64 0):=(blk_cell BK372.out 1).trans rfl;have hfs51:=blk_frozen BK372.out 1;have hns51_0:=NB370_372.out;have hns51_1:=NB371_372.out;have hms51_0:=NB372_370.out;have hms51_1:=NB372_371.out;have hs52:w49.cell? ⟨gb372,2,none⟩=some (.int .i64 0):=(blk_cell BK372.out 2).trans rfl;have hfs52:=blk_frozen BK372.out 2;have hns52_0:=NB370_372.out;have hns52_1:=NB371_372.out;have hms52_0:=NB372_370.out;have hms52_1:=NB372_371.out;have hs53:w49.cell? ⟨gb372,3,none⟩=some (.int .i64 0):=(blk_cell BK372.out 3).trans rfl;have hfs53:=blk_frozen BK372.out 3;have hns53_0:=NB370_372.out;have hns53_1:=NB371_372.out;have hms53_0:=NB372_370.out;have hms53_1:=NB372_371.out
 refine skip_ (w1:=?_) (by rfl) rfl ?_ ?_
 rotate_left
 ·go_simp
  rfl
 refine hK.out _ _ ⟨((cell_far (p:=⟨gb372,_,none⟩) NB370_372.out _).trans (((cell_far (p:=⟨gb372,_,none⟩) NB370_372.out _).trans (((cell_far (p:=⟨gb372,_,none⟩) NB370_372.out _).trans (((cell_far (p:=⟨gb372,_,none⟩) NB370_372.out _).trans (hHeld.1)))))))),((cell_far (p:=⟨gb372,_,none⟩) NB370_372.out _).trans (((cell_far (p:=⟨gb372,_,none⟩) NB370_372.out _).trans (((cell_far (p:=⟨gb372,_,none⟩) NB370_372.out _).trans (((cell_far (p:=⟨gb372,_,none⟩) NB370_372.out _).trans (hHeld.2.1)))))))),((cell_far (p:=⟨gb372,_,none⟩) NB370_372.out _).trans (((cell_far (p:=⟨gb372,_,none⟩) NB370_372.out _).trans (((cell_far (p:=⟨gb372,_,none⟩) NB370_372.out _).trans (((cell_far (p:=⟨gb372,_,none⟩) NB370_372.out _).trans (hHeld.2.2.1)))))))),((cell_far (p:=⟨gb372,_,none⟩) NB370_372.out _).trans (((cell_far (p:=⟨gb372,_,none⟩) NB370_372.out _).trans (((cell_far (p:=⟨gb372,_,none⟩) NB370_372.out _).trans (((cell_far (p:=⟨gb372,_,none⟩) NB370_372.out _).trans (hHeld.2.2.2.1)))))))),((cell_far (p:=⟨gb372,_,none⟩) NB371_372.out _).trans (((cell_far (p:=⟨gb372,_,none⟩) NB371_372.out _).trans (((cell_far (p:=⟨gb372,_,none⟩) NB371_372.out _).trans (((cell_far (p:=⟨gb372,_,none⟩) NB371_372.out _).trans (hHeld.2.2.2.2.1)))))))),((cell_far (p:=⟨gb372,_,none⟩) NB371_372.out _).trans (((cell_far (p:=⟨gb372,_,none⟩) NB371_372.out _).trans (((cell_far (p:=⟨gb372,_,none⟩) NB371_372.out _).trans (((cell_far (p:=⟨gb372,_,none⟩) NB371_372.out _).trans (hHeld.2.2.2.2.2.1)))))))),((cell_far (p:=⟨gb372,_,none⟩) NB371_372.out _).trans (((cell_far (p:=⟨gb372,_,none⟩) NB371_372.out _).trans (((cell_far (p:=⟨gb372,_,none⟩) NB371_372.out _).trans (((cell_far (p:=⟨gb372,_,none⟩) NB371_372.out _).trans (hHeld.2.2.2.2.2.2.1)))))))),((cell_far (p:=⟨gb372,_,none⟩) NB371_372.out _).trans (((cell_far (p:=⟨gb372,_,none⟩) NB371_372.out _).trans (((cell_far (p:=⟨gb372,_,none⟩) NB371_372.out _).trans (((cell_far (p:=⟨gb372,_,none⟩) NB371_372.out _).trans (hHeld.2.2.2.2.2.2.2))))))))⟩ (fun hHeld=>?_)
 clear hK K
 refine done_ (done_of HT_.out (by kernel_rfl)) ?_
 try go_wp2
 refine bodyPost_ret (results_cell_row rfl _ _ gb372 38 #[.int .i64 t383,.int .i64 t384,.int .i64 t385,.int .i64 t382] (0,0) _ rfl (by (with_reducible repeat first|apply bN_|apply bD_|apply bA_);refine blk_put (cs:=#[.int .i64 t383,.int .i64 t384,.int .i64 t385,.int .i64 0]) ?_ 3 _ rfl;(with_reducible repeat first|apply bN_|apply bD_|apply bA_);refine blk_put (cs:=#[.int .i64 t383,.int .i64 t384,.int .i64 0,.int .i64 0]) ?_ 2 _ rfl;(with_reducible repeat first|apply bN_|apply bD_|apply bA_);refine blk_put (cs:=#[.int .i64 t383,.int .i64 0,.int .i64 0,.int .i64 0]) ?_ 1 _ rfl;(with_reducible repeat first|apply bN_|apply bD_|apply bA_);refine blk_put (cs:=#[.int .i64 0,.int .i64 0,.int .i64 0,.int .i64 0]) ?_ 0 _ rfl;(with_reducible repeat first|apply bN_|apply bD_|apply bA_);exact BK372.out) Try.underlying38 rfl (by kernel_rfl)) rfl ?_
 exact ⟨by first|rfl|(simp [errW_none,errW_some] <;> rfl)|(simp [*,errW_none,errW_some] <;> rfl),by repeat first|(with_reducible first|exact HB.out|apply lA_|apply lN_|apply lD_|refine lS_ ?_ GE370.out|refine lS_ ?_ GE371.out|refine lS_ ?_ GE372.out)|exact HB.out⟩


end Go.Proofs.Ytmlcobnidfkhfaa.Q
