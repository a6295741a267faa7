/- Each Go function of the law as a Lean function, with the proof that its call comes to just that, for every input; written by hp.py, a program of this session over the kit own print of the translation. -/
import Derived.Test.YtmlcobnidfkhfaaQ0
import Derived.Test.YtmlcobnidfkhfaaQ1
import Derived.Test.YtmlcobnidfkhfaaQ2
import Derived.Test.YtmlcobnidfkhfaaQ13
namespace Go.Proofs.Ytmlcobnidfkhfaa.Q
open Go.RowKit Go.Proofs.YtmlcobnidfkhfaaW.PrintWords Go.Proofs.YtmlcobnidfkhfaaW.PrintLast Go.Proofs.YtmlcobnidfkhfaaW.PrintMore
attribute [local go_sem] max2_int min2_int max_two min_two max_three min_three max_four min_four   -- for this text's walks alone
set_option linter.unusedVariables false
set_option linter.unusedSimpArgs false
open Go.Proofs.Ytmlcobnidfkhfaa.Clo Go.Proofs.Ytmlcobnidfkhfaa.Mk0

attribute [local go_sem high] eqA38
/-! ### w18_GradientStops: function 8 -/
mutual
def w18_GradientStops.l0:Nat→List (S47)→Int→Int→Int→Int→Int→Option (Bool)
 | 0,_,_,_,_,_,_=>none
 | k + 1,x0,x1,x5,x6,x15,x16=>if x16 < x15 then (if 0≤x16 then (if x16 < (x0.length:Int) then (if ((rd_T47 x0 x16).f1.f3) < x5 then (w18_GradientStops.j1 k x0 x1 ((rd_T47 x0 x16).f1.f3) x6 x16 x15 x16 ((rd_T47 x0 x16).f1.f0) ((rd_T47 x0 x16).f1.f1) ((rd_T47 x0 x16).f1.f2) ((rd_T47 x0 x16).f1.f3)) else (w18_GradientStops.j1 k x0 x1 x5 x6 x16 x15 x16 ((rd_T47 x0 x16).f1.f0) ((rd_T47 x0 x16).f1.f1) ((rd_T47 x0 x16).f1.f2) ((rd_T47 x0 x16).f1.f3))) else (none)) else (none)) else ((gr_Color.f k x0 x1).bind fun bt505=>(if bt505.2.2.2≥x5 then (if bt505.2.2.2≤x6 then ((w18_awake.f k).bind fun t509=>(some t509)) else (none)) else (none)))
def w18_GradientStops.j1:Nat→List (S47)→Int→Int→Int→Int→Int→Int→Int→Int→Int→Int→Option (Bool)
 | 0,_,_,_,_,_,_,_,_,_,_,_=>none
 | k + 1,x0,x1,x5,x6,x7,x15,x16,x512000,x512001,x512002,x512003=>if x512003 > x6 then (w18_GradientStops.j2 k x0 x1 x5 x512003 x7 x15 x16 x512000 x512001 x512002 x512003) else (w18_GradientStops.j2 k x0 x1 x5 x6 x7 x15 x16 x512000 x512001 x512002 x512003)
def w18_GradientStops.j2:Nat→List (S47)→Int→Int→Int→Int→Int→Int→Int→Int→Int→Int→Option (Bool)
 | 0,_,_,_,_,_,_,_,_,_,_,_=>none
 | k + 1,x0,x1,x5,x6,x7,x15,x16,x512000,x512001,x512002,x512003=>if x512003 = 0 then (if 0≤x7 then (if x7 < (x0.length:Int) then ((gr_Color.f k x0 ((rd_T47 x0 x7).f0)).bind fun bt513=>(if (!(bt513.1 == 0) || (!(bt513.2.1 == 0) || (!(bt513.2.2.1 == 0) || (!(bt513.2.2.2 == 0))))) = true then (none) else (w18_GradientStops.l0 k x0 x1 x5 x6 x15 (wrap64 (x16 + 1))))) else (none)) else (none)) else (if 0≤x7 then (if x7 < (x0.length:Int) then ((gr_Color.f k x0 ((rd_T47 x0 x7).f0)).bind fun bt518=>(if (!(bt518.1 == x512000) || (!(bt518.2.1 == x512001) || (!(bt518.2.2.1 == x512002) || (!(bt518.2.2.2 == x512003))))) = true then (none) else (w18_GradientStops.l0 k x0 x1 x5 x6 x15 (wrap64 (x16 + 1))))) else (none)) else (none))
end
def w18_GradientStops.f (k:Nat) (l0:List (S47)) (a1:Int):Option (Bool):=(r18_Stops.f k l0).bind fun t503=>(if t503 = 0 then (w18_GradientStops.l0 k l0 a1 65535 0 (l0.length:Int) 0) else ((w18_awake.f k).bind fun t504=>(some t504)))
theorem w18_GradientStops.mono_l:∀ k,(∀ y0 y1 y2 y3 y4 y5,LeO (w18_GradientStops.l0 k y0 y1 y2 y3 y4 y5) (w18_GradientStops.l0 (k + 1) y0 y1 y2 y3 y4 y5))∧(∀ y0 y1 y2 y3 y4 y5 y6 y7 y8 y9 y10,LeO (w18_GradientStops.j1 k y0 y1 y2 y3 y4 y5 y6 y7 y8 y9 y10) (w18_GradientStops.j1 (k + 1) y0 y1 y2 y3 y4 y5 y6 y7 y8 y9 y10))∧(∀ y0 y1 y2 y3 y4 y5 y6 y7 y8 y9 y10,LeO (w18_GradientStops.j2 k y0 y1 y2 y3 y4 y5 y6 y7 y8 y9 y10) (w18_GradientStops.j2 (k + 1) y0 y1 y2 y3 y4 y5 y6 y7 y8 y9 y10))
 | 0=>⟨fun _ _ _ _ _ _ r h=>by simp [w18_GradientStops.l0] at h,fun _ _ _ _ _ _ _ _ _ _ _ r h=>by simp [w18_GradientStops.j1] at h,fun _ _ _ _ _ _ _ _ _ _ _ r h=>by simp [w18_GradientStops.j2] at h⟩
 | k + 1=>by
  obtain ⟨ih0,ih1,ih2⟩:=w18_GradientStops.mono_l k;refine ⟨?_,?_,?_⟩;intro y0 y1 y2 y3 y4 y5;unfold w18_GradientStops.l0;rotate_left;intro y0 y1 y2 y3 y4 y5 y6 y7 y8 y9 y10;unfold w18_GradientStops.j1;rotate_left;intro y0 y1 y2 y3 y4 y5 y6 y7 y8 y9 y10;unfold w18_GradientStops.j2;rotate_left
  all_goals repeat' first
   | (with_reducible exact ih0 _ _ _ _ _ _)
   | (with_reducible exact ih1 _ _ _ _ _ _ _ _ _ _ _)
   | (with_reducible exact ih2 _ _ _ _ _ _ _ _ _ _ _)
   | (with_reducible exact gr_Color.mono _ _ _)
   | (with_reducible exact w18_awake.mono _)
   | (with_reducible exact r18_Stops.mono _ _)
   | (with_reducible exact LeO.refl _)
   | (with_reducible exact LeO.none _)
   | (with_reducible refine LeO.ite ?_ ?_)
   | (with_reducible refine LeO.bind ?_ (fun _=>?_))
attribute [local go_sem] Instr.field part asAgg
theorem w18_GradientStops.mono:∀ a0 a1 k,LeO (w18_GradientStops.f k a0 a1) (w18_GradientStops.f (k + 1) a0 a1):=by
 intro a0 a1 k;obtain ⟨ih0,ih1,ih2⟩:=w18_GradientStops.mono_l k
 unfold w18_GradientStops.f
 repeat' first
   | (with_reducible exact ih0 _ _ _ _ _ _)
   | (with_reducible exact ih1 _ _ _ _ _ _ _ _ _ _ _)
   | (with_reducible exact ih2 _ _ _ _ _ _ _ _ _ _ _)
   | (with_reducible exact gr_Color.mono _ _ _)
   | (with_reducible exact w18_awake.mono _)
   | (with_reducible exact r18_Stops.mono _ _)
   | (with_reducible exact LeO.refl _)
   | (with_reducible exact LeO.none _)
   | (with_reducible refine LeO.ite ?_ ?_)
   | (with_reducible refine LeO.bind ?_ (fun _=>?_))
def w18_GradientStops.T14:Bool × List (List Nat × List Nat):=(true,[([],[]),([],[]),([],[]),([1,2],[1,2]),([3],[3]),([4],[4]),([0,5],[0,5]),([],[]),([6,7],[6,7])])
def w18_GradientStops.B14:List Nat:=[0,0,0,6,14,30,63,0,255]
theorem w18_GradientStops.tab14:rtab .any (opsOf Try.f8 14) = w18_GradientStops.T14:=by kernel_rfl
theorem w18_GradientStops.bits14:waitsOk w18_GradientStops.T14.2 w18_GradientStops.B14 = true:=by kernel_rfl
set_option maxHeartbeats 8000000 in
set_option maxRecDepth 100000 in
theorem w18_GradientStops.calls (k:Nat) (A0:Option Addr) (c0:Nat) (l0:List (S47)) (a1:Int) (r:Bool) (w:World) (hr0:Kd.C k47 w A0 l0.length l0) (hc0:l0.length≤c0) (h:w18_GradientStops.f k l0 a1 = some r) :
  Calls Try.prog 8 #[.slice A0 l0.length c0,.int .i64 a1] w fun e w'=>e = .returned (.bool r)∧Below w.heap.size w w':=by
 have hu38:=Try.underlying38;have HR0:=Aside0.mk hr0;have HC0:=Aside0.mk hc0;clear hr0 hc0;have HB:=Aside0.mk (Below.refl w.heap.size w)
 have H:((r18_Stops.f k l0).bind fun t503=>(if t503 = 0 then (w18_GradientStops.l0 k l0 a1 65535 0 (l0.length:Int) 0) else ((w18_awake.f k).bind fun t504=>(some t504)))) = some r:=h
 clear h;replace H:=Option.bind_eq_some_iff.mp H;obtain ⟨t503,A30,H⟩:=H
 replace H:(if t503 = 0 then (w18_GradientStops.l0 k l0 a1 65535 0 (l0.length:Int) 0) else ((w18_awake.f k).bind fun t504=>(some t504))) = some r:=H
 have A3:=Aside0.mk A30;clear A30;by_cases c4:t503 = 0
 ·rw [if_pos c4] at H
  have c4b0:=beq_iff_eq.mpr c4;have c4b1:=bne_eq_false_iff_eq.mpr c4;clear c4;have H':=Aside0.mk H;clear H
  go_enter Try.func8,Try.ntmps8
  go_wp2_with (first|((with_reducible refine gate_callee (f:=22) rfl ?_);refine goesL_ (some 11) rfl rfl Try.func22 (by kernel_rfl) rfl #[.slice A0 l0.length c0] rfl (by (try simp only [mA_,mC_,mN_]);first|done|rfl|(simp only [dL_,kL_];rfl)) ?_;(with_reducible refine (r18_Stops.calls k _ _ l0 t503 _ ?side1 ?side2 A3.out).mono ?_);(case side1=>repeat (first|exact HR0.out|(with_reducible refine Kd.C_alloc ?_ _)|(with_reducible refine Kd.C_drewN ?_ _)|(with_reducible refine Kd.C_drew ?_)));(case side2=>exact HC0.out);rintro e w5 ⟨rfl,hb⟩;refine ⟨_,rfl,?_⟩;have n0_:=Aside0.mk (below_step (by repeat first|(with_reducible first|exact HB.out|apply lA_|apply lN_|apply lD_)|exact HB.out) hb);clear HB;have HB:=n0_;clear n0_;(try clear hb);(try clear hb2);(try clear hk);(try clear hi)))
  go_loopg [5,6,16] k (fun kq v5 v6 v16 w'=>∃ (x5_1:Int) (x6_1:Int) (x16_1:Int),v5 = .int .i64 x5_1∧v6 = .int .i64 x6_1∧v16 = .int .i64 x16_1∧Aside0 (w18_GradientStops.l0 kq l0 a1 x5_1 x6_1 (l0.length:Int) x16_1 = some r)∧Aside0 (kq≤k)∧Aside0 (Below w.heap.size w w'))
  case atStart=>exact ⟨(65535),(0),(0),(by first|rfl|(simp;done)|(simp [*];done)),(by first|rfl|(simp;done)|(simp [*];done)),(by first|rfl|(simp;done)|(simp [*];done)),H',⟨Nat.le_refl _⟩,⟨by repeat first|(with_reducible first|exact HB.out|apply lA_|apply lN_|apply lD_)|exact HB.out⟩⟩
  case round =>
   clear H';obtain ⟨x5_1,x6_1,x16_1,rfl,rfl,rfl,HA,HK1,HB⟩:=hrel
   cases gk with
   | zero=>exact absurd HA.out (by simp [w18_GradientStops.l0])
   | succ k1 =>
    have H:=HA.out;clear HA;simp only [w18_GradientStops.l0] at H;by_cases c6:x16_1 < (l0.length:Int)
    ·rw [if_pos c6] at H
     have c6b0:=decide_eq_true c6;clear c6;by_cases c7:0≤x16_1
     ·rw [if_pos c7] at H
      have c7b0:=decide_eq_true c7;clear c7;by_cases c8:x16_1 < (l0.length:Int)
      ·rw [if_pos c8] at H
       have c8b0:=decide_eq_true c8;clear c8;have HC9:=Aside0.mk H;clear H
       have p510:0≤(x16_1:Int):=of_decide_eq_true (by first|(with_reducible assumption)|assumption)
       have q510:x16_1 < (l0.length:Int):=of_decide_eq_true (by first|(with_reducible assumption)|assumption)
       obtain ⟨ad510,e510,hx510_0,hx510_1,hx510_2,hx510_3,hx510_4⟩:=at_T47 HR0.out x16_1 p510 q510;cases e510;replace hx510_0:=(HB.out.cell (World.block_lt_of_cell? w _ hx510_0)).trans hx510_0;replace hx510_1:=(HB.out.cell (World.block_lt_of_cell? w _ hx510_1)).trans hx510_1;replace hx510_2:=(HB.out.cell (World.block_lt_of_cell? w _ hx510_2)).trans hx510_2;replace hx510_3:=(HB.out.cell (World.block_lt_of_cell? w _ hx510_3)).trans hx510_3;replace hx510_4:=(HB.out.cell (World.block_lt_of_cell? w _ hx510_4)).trans hx510_4;replace p510:=eq_true p510;replace q510:=eq_true q510
       go_upto_if 27 with (first|((with_reducible refine gate_dst (N:=8) rfl ?_);refine box_event ?hg (N:=8) ?hd (cs:=#[.int .i64 0,.int .i64 0,.int .i64 0,.int .i64 0]) (t:=38) ?hr ?_;(case hd=>rfl);(case hg=>rfl);(case hr=>first|(go_simp;done)|(go_simp;rfl));intro gb511 hg w10 hbox hb;have n0_:=Aside0.mk (below_step (by repeat first|(with_reducible first|exact HB.out|apply lA_|apply lN_|apply lD_)|exact HB.out) hb);have n1_:=Aside0.mk (hbox);have n2_:=Aside0.mk ((by rw [hg];exact (below_size (by repeat first|(with_reducible first|exact HB.out|apply lA_|apply lN_|apply lD_)|exact HB.out)):w.heap.size≤gb511));have n3_:=Aside0.mk ((by rw [hg];exact (below_size (by repeat first|(with_reducible first|exact HB.out|apply lA_|apply lN_|apply lD_)|exact HB.out)):w.heap.size≤gb511));clear HB;have HB:=n0_;have BK511:=n1_;have GW511:=n2_;have GE511:=n3_;clear n0_ n1_ n2_ n3_;clear hb hbox hg;have hcz11_0:w10.cell? ⟨gb511,0,none⟩ = some (.int .i64 0):=(blk_cell BK511.out 0).trans rfl;have hcz11_1:w10.cell? ⟨gb511,1,none⟩ = some (.int .i64 0):=(blk_cell BK511.out 1).trans rfl;have hcz11_2:w10.cell? ⟨gb511,2,none⟩ = some (.int .i64 0):=(blk_cell BK511.out 2).trans rfl;have hcz11_3:w10.cell? ⟨gb511,3,none⟩ = some (.int .i64 0):=(blk_cell BK511.out 3).trans rfl;have hfz11_0:=blk_frozen BK511.out 0;have hfz11_1:=blk_frozen BK511.out 1;have hfz11_2:=blk_frozen BK511.out 2;have hfz11_3:=blk_frozen BK511.out 3))
       (try simp only [Act.put,tS_,tZ_,tC_])
       go_cut [5] (fun v5 wc=>∃ (kq:Nat) (x5_8:Int),v5 = .int .i64 x5_8∧Aside0 (w18_GradientStops.j1 kq l0 a1 x5_8 x6_1 x16_1 (l0.length:Int) x16_1 ((rd_T47 l0 x16_1).f1.f0) ((rd_T47 l0 x16_1).f1.f1) ((rd_T47 l0 x16_1).f1.f2) ((rd_T47 l0 x16_1).f1.f3) = some r)∧Aside0 (kq≤k1)∧Aside0 (wc.heap[gb511]? = some (.cells #[.int .i64 ((rd_T47 l0 x16_1).f1.f0),.int .i64 ((rd_T47 l0 x16_1).f1.f1),.int .i64 ((rd_T47 l0 x16_1).f1.f2),.int .i64 ((rd_T47 l0 x16_1).f1.f3)] 38 (0,0)))∧Aside0 (Below w.heap.size w wc))
       case first =>
        have H:=HC9.out;clear HC9;by_cases c12:((rd_T47 l0 x16_1).f1.f3) < x5_1
        ·rw [if_pos c12] at H
         have c12b0:=decide_eq_true c12;clear c12
         (first|rw [c12b0]|(simp only [i64_w,i32_w];rw [c12b0])|skip)
         have H':=Aside0.mk H;clear H;have hcz13_0:w10.cell? ⟨gb511,0,none⟩ = some (.int .i64 0):=(blk_cell BK511.out 0).trans rfl;have hcz13_1:w10.cell? ⟨gb511,1,none⟩ = some (.int .i64 0):=(blk_cell BK511.out 1).trans rfl;have hcz13_2:w10.cell? ⟨gb511,2,none⟩ = some (.int .i64 0):=(blk_cell BK511.out 2).trans rfl;have hcz13_3:w10.cell? ⟨gb511,3,none⟩ = some (.int .i64 0):=(blk_cell BK511.out 3).trans rfl;have hfz13_0:=blk_frozen BK511.out 0;have hfz13_1:=blk_frozen BK511.out 1;have hfz13_2:=blk_frozen BK511.out 2;have hfz13_3:=blk_frozen BK511.out 3
         go_wp2
         go_meet
         case rel=>exact ⟨_,((rd_T47 l0 x16_1).f1.f3),(by first|rfl|(simp;done)|(simp [*];done)),H',⟨by have:=HK1.out;first|omega|exact Nat.le_refl _⟩,⟨by (with_reducible repeat first|apply bN_|apply bD_|apply bA_);refine blk_put (cs:=#[.int .i64 ((rd_T47 l0 x16_1).f1.f0),.int .i64 ((rd_T47 l0 x16_1).f1.f1),.int .i64 ((rd_T47 l0 x16_1).f1.f2),.int .i64 0]) ?_ 3 _ rfl;(with_reducible repeat first|apply bN_|apply bD_|apply bA_);refine blk_put (cs:=#[.int .i64 ((rd_T47 l0 x16_1).f1.f0),.int .i64 ((rd_T47 l0 x16_1).f1.f1),.int .i64 0,.int .i64 0]) ?_ 2 _ rfl;(with_reducible repeat first|apply bN_|apply bD_|apply bA_);refine blk_put (cs:=#[.int .i64 ((rd_T47 l0 x16_1).f1.f0),.int .i64 0,.int .i64 0,.int .i64 0]) ?_ 1 _ rfl;(with_reducible repeat first|apply bN_|apply bD_|apply bA_);refine blk_put (cs:=#[.int .i64 0,.int .i64 0,.int .i64 0,.int .i64 0]) ?_ 0 _ rfl;(with_reducible repeat first|apply bN_|apply bD_|apply bA_);exact BK511.out⟩,⟨by repeat first|(with_reducible first|exact HB.out|apply lA_|apply lN_|apply lD_|refine lS_ ?_ GE511.out)|exact HB.out⟩⟩
        rw [if_neg c12] at H;have c12b0:=decide_eq_false c12;clear c12
        (first|rw [c12b0]|(simp only [i64_w,i32_w];rw [c12b0])|skip)
        have H':=Aside0.mk H;clear H
        go_wp2
        go_meet
        case rel=>exact ⟨_,(x5_1),(by first|rfl|(simp;done)|(simp [*];done)),H',⟨by have:=HK1.out;first|omega|exact Nat.le_refl _⟩,⟨by (with_reducible repeat first|apply bN_|apply bD_|apply bA_);refine blk_put (cs:=#[.int .i64 ((rd_T47 l0 x16_1).f1.f0),.int .i64 ((rd_T47 l0 x16_1).f1.f1),.int .i64 ((rd_T47 l0 x16_1).f1.f2),.int .i64 0]) ?_ 3 _ rfl;(with_reducible repeat first|apply bN_|apply bD_|apply bA_);refine blk_put (cs:=#[.int .i64 ((rd_T47 l0 x16_1).f1.f0),.int .i64 ((rd_T47 l0 x16_1).f1.f1),.int .i64 0,.int .i64 0]) ?_ 2 _ rfl;(with_reducible repeat first|apply bN_|apply bD_|apply bA_);refine blk_put (cs:=#[.int .i64 ((rd_T47 l0 x16_1).f1.f0),.int .i64 0,.int .i64 0,.int .i64 0]) ?_ 1 _ rfl;(with_reducible repeat first|apply bN_|apply bD_|apply bA_);refine blk_put (cs:=#[.int .i64 0,.int .i64 0,.int .i64 0,.int .i64 0]) ?_ 0 _ rfl;(with_reducible repeat first|apply bN_|apply bD_|apply bA_);exact BK511.out⟩,⟨by repeat first|(with_reducible first|exact HB.out|apply lA_|apply lN_|apply lD_|refine lS_ ?_ GE511.out)|exact HB.out⟩⟩
       case rest =>
        clear HC9;obtain ⟨kq,x5_8,rfl,HA,HJ8,BK511,HB⟩:=hcut
        cases kq with
        | zero=>exact absurd HA.out (by simp [w18_GradientStops.j1])
        | succ kj8 =>
         have H:=HA.out;clear HA;simp only [w18_GradientStops.j1] at H;have HC14:=Aside0.mk H;clear H;have hcz15_0:wc.cell? ⟨gb511,0,none⟩ = some (.int .i64 ((rd_T47 l0 x16_1).f1.f0)):=(blk_cell BK511.out 0).trans rfl;have hcz15_1:wc.cell? ⟨gb511,1,none⟩ = some (.int .i64 ((rd_T47 l0 x16_1).f1.f1)):=(blk_cell BK511.out 1).trans rfl;have hcz15_2:wc.cell? ⟨gb511,2,none⟩ = some (.int .i64 ((rd_T47 l0 x16_1).f1.f2)):=(blk_cell BK511.out 2).trans rfl;have hcz15_3:wc.cell? ⟨gb511,3,none⟩ = some (.int .i64 ((rd_T47 l0 x16_1).f1.f3)):=(blk_cell BK511.out 3).trans rfl;have hfz15_0:=blk_frozen BK511.out 0;have hfz15_1:=blk_frozen BK511.out 1;have hfz15_2:=blk_frozen BK511.out 2;have hfz15_3:=blk_frozen BK511.out 3
         go_upto_if 33 with (fail)
         go_cut [6] (fun v6 wc=>∃ (kq:Nat) (x6_13:Int),v6 = .int .i64 x6_13∧Aside0 (w18_GradientStops.j2 kq l0 a1 x5_8 x6_13 x16_1 (l0.length:Int) x16_1 ((rd_T47 l0 x16_1).f1.f0) ((rd_T47 l0 x16_1).f1.f1) ((rd_T47 l0 x16_1).f1.f2) ((rd_T47 l0 x16_1).f1.f3) = some r)∧Aside0 (kq≤kj8)∧Aside0 (wc.heap[gb511]? = some (.cells #[.int .i64 ((rd_T47 l0 x16_1).f1.f0),.int .i64 ((rd_T47 l0 x16_1).f1.f1),.int .i64 ((rd_T47 l0 x16_1).f1.f2),.int .i64 ((rd_T47 l0 x16_1).f1.f3)] 38 (0,0)))∧Aside0 (Below w.heap.size w wc))
         case first =>
          have H:=HC14.out;clear HC14;by_cases c16:((rd_T47 l0 x16_1).f1.f3) > x6_1
          ·rw [if_pos c16] at H
           have c16b0:=decide_eq_true c16;clear c16
           (first|rw [c16b0]|(simp only [i64_w,i32_w];rw [c16b0])|skip)
           have H':=Aside0.mk H;clear H;have hcz17_0:wc.cell? ⟨gb511,0,none⟩ = some (.int .i64 ((rd_T47 l0 x16_1).f1.f0)):=(blk_cell BK511.out 0).trans rfl;have hcz17_1:wc.cell? ⟨gb511,1,none⟩ = some (.int .i64 ((rd_T47 l0 x16_1).f1.f1)):=(blk_cell BK511.out 1).trans rfl;have hcz17_2:wc.cell? ⟨gb511,2,none⟩ = some (.int .i64 ((rd_T47 l0 x16_1).f1.f2)):=(blk_cell BK511.out 2).trans rfl;have hcz17_3:wc.cell? ⟨gb511,3,none⟩ = some (.int .i64 ((rd_T47 l0 x16_1).f1.f3)):=(blk_cell BK511.out 3).trans rfl;have hfz17_0:=blk_frozen BK511.out 0;have hfz17_1:=blk_frozen BK511.out 1;have hfz17_2:=blk_frozen BK511.out 2;have hfz17_3:=blk_frozen BK511.out 3
           go_wp2
           go_meet
           case rel=>exact ⟨_,(((rd_T47 l0 x16_1).f1.f3)),(by first|rfl|(simp;done)|(simp [*];done)),H',⟨by have:=HK1.out;have:=HJ8.out;first|omega|exact Nat.le_refl _⟩,⟨by (with_reducible repeat first|apply bN_|apply bD_|apply bA_);exact BK511.out⟩,⟨by repeat first|(with_reducible first|exact HB.out|apply lA_|apply lN_|apply lD_|refine lS_ ?_ GE511.out)|exact HB.out⟩⟩
          rw [if_neg c16] at H;have c16b0:=decide_eq_false c16;clear c16
          (first|rw [c16b0]|(simp only [i64_w,i32_w];rw [c16b0])|skip)
          have H':=Aside0.mk H;clear H
          go_wp2
          go_meet
          case rel=>exact ⟨_,(x6_1),(by first|rfl|(simp;done)|(simp [*];done)),H',⟨by have:=HK1.out;have:=HJ8.out;first|omega|exact Nat.le_refl _⟩,⟨by (with_reducible repeat first|apply bN_|apply bD_|apply bA_);exact BK511.out⟩,⟨by repeat first|(with_reducible first|exact HB.out|apply lA_|apply lN_|apply lD_|refine lS_ ?_ GE511.out)|exact HB.out⟩⟩
         case rest =>
          clear HC14;obtain ⟨kq,x6_13,rfl,HA,HJ13,BK511,HB⟩:=hcut
          cases kq with
          | zero=>exact absurd HA.out (by simp [w18_GradientStops.j2])
          | succ kj13 =>
           have H:=HA.out;clear HA;simp only [w18_GradientStops.j2] at H;by_cases c18:((rd_T47 l0 x16_1).f1.f3) = 0
           ·rw [if_pos c18] at H
            have c18b0:=beq_iff_eq.mpr c18;have c18b1:=bne_eq_false_iff_eq.mpr c18;clear c18;by_cases c19:0≤x16_1
            ·rw [if_pos c19] at H
             have c19b0:=decide_eq_true c19;clear c19;by_cases c20:x16_1 < (l0.length:Int)
             ·rw [if_pos c20] at H
              have c20b0:=decide_eq_true c20;clear c20;replace H:=Option.bind_eq_some_iff.mp H;obtain ⟨⟨t513,t514,t515,t516⟩,A210,H⟩:=H
              replace H:(if (!(t513 == 0) || (!(t514 == 0) || (!(t515 == 0) || (!(t516 == 0))))) = true then (none) else (w18_GradientStops.l0 kj13 l0 a1 x5_8 x6_13 (l0.length:Int) (wrap64 (x16_1 + 1)))) = some r:=H
              have A21:=Aside0.mk A210;clear A210;by_cases c22:(!(t513 == 0) || (!(t514 == 0) || (!(t515 == 0) || (!(t516 == 0))))) = true
              ·rw [if_pos c22] at H
               exact absurd H (by simp)
              rw [if_neg c22] at H
              have c22b0:(!(t513 == 0) || (!(t514 == 0) || (!(t515 == 0) || (!(t516 == 0))))) = false:=by simpa using c22
              clear c22;have H':=Aside0.mk H;clear H;have hcz23_0:wc.cell? ⟨gb511,0,none⟩ = some (.int .i64 ((rd_T47 l0 x16_1).f1.f0)):=(blk_cell BK511.out 0).trans rfl;have hcz23_1:wc.cell? ⟨gb511,1,none⟩ = some (.int .i64 ((rd_T47 l0 x16_1).f1.f1)):=(blk_cell BK511.out 1).trans rfl;have hcz23_2:wc.cell? ⟨gb511,2,none⟩ = some (.int .i64 ((rd_T47 l0 x16_1).f1.f2)):=(blk_cell BK511.out 2).trans rfl;have hcz23_3:wc.cell? ⟨gb511,3,none⟩ = some (.int .i64 ((rd_T47 l0 x16_1).f1.f3)):=(blk_cell BK511.out 3).trans rfl;have hfz23_0:=blk_frozen BK511.out 0;have hfz23_1:=blk_frozen BK511.out 1;have hfz23_2:=blk_frozen BK511.out 2;have hfz23_3:=blk_frozen BK511.out 3
              try go_wp2
              have n0_:Aside0 (((((wc.setCell ⟨gb511,0,none⟩ (.int .i64 0)).setCell ⟨gb511,1,none⟩ (.int .i64 0)).setCell ⟨gb511,2,none⟩ (.int .i64 0)).setCell ⟨gb511,3,none⟩ (.int .i64 0)).heap[gb511]? = some (.cells #[.int .i64 0,.int .i64 0,.int .i64 0,.int .i64 0] 38 (0,0))):=⟨by (with_reducible repeat first|apply bN_|apply bD_|apply bA_);refine blk_put (cs:=#[.int .i64 0,.int .i64 0,.int .i64 0,.int .i64 ((rd_T47 l0 x16_1).f1.f3)]) ?_ 3 _ rfl;(with_reducible repeat first|apply bN_|apply bD_|apply bA_);refine blk_put (cs:=#[.int .i64 0,.int .i64 0,.int .i64 ((rd_T47 l0 x16_1).f1.f2),.int .i64 ((rd_T47 l0 x16_1).f1.f3)]) ?_ 2 _ rfl;(with_reducible repeat first|apply bN_|apply bD_|apply bA_);refine blk_put (cs:=#[.int .i64 0,.int .i64 ((rd_T47 l0 x16_1).f1.f1),.int .i64 ((rd_T47 l0 x16_1).f1.f2),.int .i64 ((rd_T47 l0 x16_1).f1.f3)]) ?_ 1 _ rfl;(with_reducible repeat first|apply bN_|apply bD_|apply bA_);refine blk_put (cs:=#[.int .i64 ((rd_T47 l0 x16_1).f1.f0),.int .i64 ((rd_T47 l0 x16_1).f1.f1),.int .i64 ((rd_T47 l0 x16_1).f1.f2),.int .i64 ((rd_T47 l0 x16_1).f1.f3)]) ?_ 0 _ rfl;(with_reducible repeat first|apply bN_|apply bD_|apply bA_);exact BK511.out⟩
              have n1_:Aside0 (Below w.heap.size w ((((wc.setCell ⟨gb511,0,none⟩ (.int .i64 0)).setCell ⟨gb511,1,none⟩ (.int .i64 0)).setCell ⟨gb511,2,none⟩ (.int .i64 0)).setCell ⟨gb511,3,none⟩ (.int .i64 0))):=⟨by repeat first|(with_reducible first|exact HB.out|apply lA_|apply lN_|apply lD_|refine lS_ ?_ GE511.out)|exact HB.out⟩
              (try clear BK511)
              (try clear HB)
              generalize ((((wc.setCell ⟨gb511,0,none⟩ (.int .i64 0)).setCell ⟨gb511,1,none⟩ (.int .i64 0)).setCell ⟨gb511,2,none⟩ (.int .i64 0)).setCell ⟨gb511,3,none⟩ (.int .i64 0)) = w24 at n0_ n1_ ⊢
              have BK511:=n0_;have HB:=n1_;clear n0_ n1_;have n0_:=Aside0.mk (blk_drew BK511.out);have n1_:=Aside0.mk (below_drew1 HB.out);clear BK511;clear HB;have BK511:=n0_;have HB:=n1_;clear n0_ n1_
              have p512:0≤(x16_1:Int):=of_decide_eq_true (by first|(with_reducible assumption)|assumption)
              have q512:x16_1 < (l0.length:Int):=of_decide_eq_true (by first|(with_reducible assumption)|assumption)
              obtain ⟨ad512,e512,hx512_0,hx512_1,hx512_2,hx512_3,hx512_4⟩:=at_T47 HR0.out x16_1 p512 q512;have hw512_4:=hx512_4;have hw512_3:=hx512_3;have hw512_2:=hx512_2;have hw512_1:=hx512_1;have hw512_0:=hx512_0
              obtain rfl:ad510 = ad512:=(by injection e512)
              replace hx512_0:=(HB.out.cell (World.block_lt_of_cell? w _ hx512_0)).trans hx512_0;replace hx512_1:=(HB.out.cell (World.block_lt_of_cell? w _ hx512_1)).trans hx512_1;replace hx512_2:=(HB.out.cell (World.block_lt_of_cell? w _ hx512_2)).trans hx512_2;replace hx512_3:=(HB.out.cell (World.block_lt_of_cell? w _ hx512_3)).trans hx512_3;replace hx512_4:=(HB.out.cell (World.block_lt_of_cell? w _ hx512_4)).trans hx512_4;replace p512:=eq_true p512;replace q512:=eq_true q512
              refine start_ (n:=9) (S:=fun w'=>w'.cell? ⟨gb511,0,none⟩ = some (.int .i64 0)∧w'.cell? ⟨gb511,1,none⟩ = some (.int .i64 0)∧w'.cell? ⟨gb511,2,none⟩ = some (.int .i64 0)∧w'.cell? ⟨gb511,3,none⟩ = some (.int .i64 0)∧w'.cell? (ad510.add ((x16_1).toNat * 5)) = some (.int .i64 ((rd_T47 l0 x16_1).f0))∧w'.cell? ⟨(ad510.add ((x16_1).toNat * 5)).block,(ad510.add ((x16_1).toNat * 5)).off + 1,none⟩ = some (.int .i64 ((rd_T47 l0 x16_1).f1.f0))∧w'.cell? ⟨(ad510.add ((x16_1).toNat * 5)).block,(ad510.add ((x16_1).toNat * 5)).off + 2,none⟩ = some (.int .i64 ((rd_T47 l0 x16_1).f1.f1))∧w'.cell? ⟨(ad510.add ((x16_1).toNat * 5)).block,(ad510.add ((x16_1).toNat * 5)).off + 3,none⟩ = some (.int .i64 ((rd_T47 l0 x16_1).f1.f2))∧w'.cell? ⟨(ad510.add ((x16_1).toNat * 5)).block,(ad510.add ((x16_1).toNat * 5)).off + 4,none⟩ = some (.int .i64 ((rd_T47 l0 x16_1).f1.f3))) (ds:=[]) #[F_,F_,F_,F_,F_,F_,F_,F_,F_] (by kernel_rfl) rfl rfl ⟨(blk_cell BK511.out 0).trans rfl,(blk_cell BK511.out 1).trans rfl,(blk_cell BK511.out 2).trans rfl,(blk_cell BK511.out 3).trans rfl,((HB.out.cell (World.block_lt_of_cell? w _ hw512_0)).trans hw512_0),((HB.out.cell (World.block_lt_of_cell? w _ hw512_1)).trans hw512_1),((HB.out.cell (World.block_lt_of_cell? w _ hw512_2)).trans hw512_2),((HB.out.cell (World.block_lt_of_cell? w _ hw512_3)).trans hw512_3),((HB.out.cell (World.block_lt_of_cell? w _ hw512_4)).trans hw512_4)⟩ (fun hHeld=>?_);refine with_tabW w18_GradientStops.tab14 w18_GradientStops.bits14 (fun HT_ HW_=>?_)
              generalize w24.drew = w25 at BK511 HB hx512_0 hx512_1 hx512_2 hx512_3 hx512_4 hHeld ⊢
              refine pure_ (i:=0) (N:=some 40) (v:=?_) (a':=?_) #[T_,F_,F_,F_,F_,F_,F_,F_,F_] rfl rfl (any_of HT_.out (by kernel_rfl)) (fun _ _ _ h=>h) (Or.inl ⟨by rfl,?_⟩) ?_ ?_
              rotate_left
              ·intro w'
               go_simp
               with_reducible rfl
              rotate_left
              ·simp only [Act.put,tS_,tZ_,tC_,i64_w,i32_w]
               rfl
              refine pure_ (i:=1) (N:=some 41) (v:=?_) (a':=?_) #[T_,T_,F_,F_,F_,F_,F_,F_,F_] rfl rfl (any_of HT_.out (by kernel_rfl)) (fun _ _ _ h=>h) (Or.inl ⟨by rfl,?_⟩) ?_ ?_
              rotate_left
              ·intro w'
               go_simp
               with_reducible rfl
              rotate_left
              ·simp only [Act.put,tS_,tZ_,tC_,i64_w,i32_w]
               rfl
              refine pure_ (i:=2) (N:=some 42) (v:=?_) (a':=?_) #[T_,T_,T_,F_,F_,F_,F_,F_,F_] rfl rfl (any_of HT_.out (by kernel_rfl)) (fun _ _ _ h=>h) (Or.inl ⟨by rfl,?_⟩) ?_ ?_
              rotate_left
              ·intro w'
               go_simp
               with_reducible rfl
              rotate_left
              ·simp only [Act.put,tS_,tZ_,tC_,i64_w,i32_w]
               rfl
              refine pure_ (i:=3) (N:=some 43) (v:=?_) (a':=?_) #[T_,T_,T_,T_,F_,F_,F_,F_,F_] rfl rfl (any_of HT_.out (by kernel_rfl)) (fun _ _ _ h=>h) (Or.inl ⟨by rfl,?_⟩) ?_ ?_
              rotate_left
              ·intro w'
               go_simp
               with_reducible rfl
              rotate_left
              ·simp only [Act.put,tS_,tZ_,tC_,i64_w,i32_w]
               rfl
              refine pure_ (i:=4) (N:=some 44) (v:=?_) (a':=?_) #[T_,T_,T_,T_,T_,F_,F_,F_,F_] rfl rfl (any_of HT_.out (by kernel_rfl)) (fun _ _ _ h=>h) (Or.inl ⟨by rfl,?_⟩) ?_ ?_
              rotate_left
              ·intro w'
               go_simp
               with_reducible rfl
              rotate_left
              ·simp only [Act.put,tS_,tZ_,tC_,i64_w,i32_w]
               rfl
              refine take_ (i:=5) (N:=some 45) (v:=?_) (a':=?_) #[T_,T_,T_,T_,T_,T_,F_,F_,F_] rfl rfl (take_ofW HT_.out HW_.out (by kernel_rfl)) (fun _ _ _ h=>h) (Or.inl ⟨by rfl,?_⟩) hHeld ?_ ?_
              rotate_left
              ·rintro w' ⟨s0,s1,s2,s3,s4,s5,s6,s7,s8⟩
               go_simp
               with_reducible rfl
              rotate_left
              ·simp only [Act.put,tS_,tZ_,tC_,i64_w,i32_w]
               rfl
              refine take_ (i:=7) (N:=some 47) (v:=?_) (a':=?_) #[T_,T_,T_,T_,T_,T_,F_,T_,F_] rfl rfl (take_ofW HT_.out HW_.out (by kernel_rfl)) (fun _ _ _ h=>h) (Or.inl ⟨by rfl,?_⟩) hHeld ?_ ?_
              rotate_left
              ·rintro w' ⟨s0,s1,s2,s3,s4,s5,s6,s7,s8⟩
               go_simp
               with_reducible rfl
              rotate_left
              ·simp only [Act.put,tS_,tZ_,tC_,i64_w,i32_w]
               rfl
              refine one_ (i:=6) (N:=some 46) #[T_,T_,T_,T_,T_,T_,T_,T_,F_] rfl rfl (one_of HT_.out (by kernel_rfl)) (by decide) (fun K hK=>?_)
              refine goes_ Try.func17 (by kernel_rfl) rfl #[.slice (some ad510) l0.length c0,.int .i64 ((rd_T47 l0 x16_1).f0)] (by rfl) rfl rfl (by (try simp only [mA_,mC_,mN_]);first|done|rfl|(simp only [dL_,kL_];rfl)) ?_
              with_reducible refine (gr_Color.calls kj13 _ _ l0 ((rd_T47 l0 x16_1).f0) t513 t514 t515 t516 _ ?side1 ?side2 A21.out).mono ?_
              (case side1=>repeat (first|exact (Kd.C_below HR0.out HB.out)|(with_reducible refine Kd.C_alloc ?_ _)|(with_reducible refine Kd.C_drewN ?_ _)|(with_reducible refine Kd.C_drew ?_)))
              (case side2=>exact HC0.out)
              rintro e w26 ⟨rfl,hb⟩;refine ⟨_,rfl,?_⟩
              have n0_:=Aside0.mk (blk_below (by (with_reducible repeat first|apply bN_|apply bD_|apply bA_);exact BK511.out) hb)
              have n1_:=Aside0.mk (below_step (by repeat first|(with_reducible first|exact HB.out|apply lA_|apply lN_|apply lD_|refine lS_ ?_ GE511.out)|exact HB.out) hb)
              clear BK511;clear HB;have BK511:=n0_;have HB:=n1_;clear n0_ n1_
              (try clear hb)
              (try clear hb2)
              (try clear hk)
              (try clear hi)
              refine hK.out _ _ ⟨(blk_cell BK511.out 0).trans rfl,(blk_cell BK511.out 1).trans rfl,(blk_cell BK511.out 2).trans rfl,(blk_cell BK511.out 3).trans rfl,((HB.out.cell (World.block_lt_of_cell? w _ hw512_0)).trans hw512_0),((HB.out.cell (World.block_lt_of_cell? w _ hw512_1)).trans hw512_1),((HB.out.cell (World.block_lt_of_cell? w _ hw512_2)).trans hw512_2),((HB.out.cell (World.block_lt_of_cell? w _ hw512_3)).trans hw512_3),((HB.out.cell (World.block_lt_of_cell? w _ hw512_4)).trans hw512_4)⟩ (fun hHeld=>?_)
              clear hK K;refine norm_ (a':=?_) ?_ ?_;rotate_left
              ·show Act.put _ (some 46) _ = _
               simp only [Act.put,tS_,tZ_,tC_,i64_w,i32_w];rfl
              refine pure_ (i:=8) (N:=some 48) (v:=?_) (a':=?_) #[T_,T_,T_,T_,T_,T_,T_,T_,T_] rfl rfl (any_of HT_.out (by kernel_rfl)) (fun _ _ _ h=>h) (Or.inl ⟨by rfl,?_⟩) ?_ ?_
              rotate_left
              ·intro w'
               go_simp
               with_reducible rfl
              rotate_left
              ·simp only [Act.put,tS_,tZ_,tC_,i64_w,i32_w]
               rfl
              refine done_ (done_of HT_.out (by kernel_rfl)) ?_
              try go_wp2
              go_roundg kj13
              case measure=>have:=HK1.out;have:=HJ8.out;have:=HJ13.out;omega
              case rel=>exact ⟨(x5_8),(x6_13),(wrap64 (x16_1 + 1)),(by first|rfl|(simp;done)|(simp [*];done)),(by first|rfl|(simp;done)|(simp [*];done)),(by first|rfl|(simp;done)|(simp [*];done)),H',⟨by have:=HK1.out;have:=HJ8.out;have:=HJ13.out;omega⟩,⟨by repeat first|(with_reducible first|exact HB.out|apply lA_|apply lN_|apply lD_|refine lS_ ?_ GE511.out)|exact HB.out⟩⟩
             rw [if_neg c20] at H
             exact absurd H (by simp)
            rw [if_neg c19] at H
            exact absurd H (by simp)
           rw [if_neg c18] at H;have c18b0:(((rd_T47 l0 x16_1).f1.f3) == 0) = false:=beq_eq_false_iff_ne.mpr c18;have c18b1:(((rd_T47 l0 x16_1).f1.f3) != 0) = true:=bne_iff_ne.mpr c18;by_cases c27:0≤x16_1
           ·rw [if_pos c27] at H
            have c27b0:=decide_eq_true c27;clear c27;by_cases c28:x16_1 < (l0.length:Int)
            ·rw [if_pos c28] at H
             have c28b0:=decide_eq_true c28;clear c28;replace H:=Option.bind_eq_some_iff.mp H;obtain ⟨⟨t518,t519,t520,t521⟩,A290,H⟩:=H
             replace H:(if (!(t518 == ((rd_T47 l0 x16_1).f1.f0)) || (!(t519 == ((rd_T47 l0 x16_1).f1.f1)) || (!(t520 == ((rd_T47 l0 x16_1).f1.f2)) || (!(t521 == ((rd_T47 l0 x16_1).f1.f3)))))) = true then (none) else (w18_GradientStops.l0 kj13 l0 a1 x5_8 x6_13 (l0.length:Int) (wrap64 (x16_1 + 1)))) = some r:=H
             have A29:=Aside0.mk A290;clear A290;by_cases c30:(!(t518 == ((rd_T47 l0 x16_1).f1.f0)) || (!(t519 == ((rd_T47 l0 x16_1).f1.f1)) || (!(t520 == ((rd_T47 l0 x16_1).f1.f2)) || (!(t521 == ((rd_T47 l0 x16_1).f1.f3)))))) = true
             ·rw [if_pos c30] at H
              exact absurd H (by simp)
             rw [if_neg c30] at H
             have c30b0:(!(t518 == ((rd_T47 l0 x16_1).f1.f0)) || (!(t519 == ((rd_T47 l0 x16_1).f1.f1)) || (!(t520 == ((rd_T47 l0 x16_1).f1.f2)) || (!(t521 == ((rd_T47 l0 x16_1).f1.f3)))))) = false:=by simpa using c30
             clear c30;have H':=Aside0.mk H;clear H;have hcz31_0:wc.cell? ⟨gb511,0,none⟩ = some (.int .i64 ((rd_T47 l0 x16_1).f1.f0)):=(blk_cell BK511.out 0).trans rfl;have hcz31_1:wc.cell? ⟨gb511,1,none⟩ = some (.int .i64 ((rd_T47 l0 x16_1).f1.f1)):=(blk_cell BK511.out 1).trans rfl;have hcz31_2:wc.cell? ⟨gb511,2,none⟩ = some (.int .i64 ((rd_T47 l0 x16_1).f1.f2)):=(blk_cell BK511.out 2).trans rfl;have hcz31_3:wc.cell? ⟨gb511,3,none⟩ = some (.int .i64 ((rd_T47 l0 x16_1).f1.f3)):=(blk_cell BK511.out 3).trans rfl;have hfz31_0:=blk_frozen BK511.out 0;have hfz31_1:=blk_frozen BK511.out 1;have hfz31_2:=blk_frozen BK511.out 2;have hfz31_3:=blk_frozen BK511.out 3
             try go_wp2
             have n0_:=Aside0.mk (blk_drew BK511.out);have n1_:=Aside0.mk (below_drew1 HB.out);clear BK511;clear HB;have BK511:=n0_;have HB:=n1_;clear n0_ n1_
             have p517:0≤(x16_1:Int):=of_decide_eq_true (by first|(with_reducible assumption)|assumption)
             have q517:x16_1 < (l0.length:Int):=of_decide_eq_true (by first|(with_reducible assumption)|assumption)
             obtain ⟨ad517,e517,hx517_0,hx517_1,hx517_2,hx517_3,hx517_4⟩:=at_T47 HR0.out x16_1 p517 q517;have hw517_4:=hx517_4;have hw517_3:=hx517_3;have hw517_2:=hx517_2;have hw517_1:=hx517_1;have hw517_0:=hx517_0
             obtain rfl:ad510 = ad517:=(by injection e517)
             replace hx517_0:=(HB.out.cell (World.block_lt_of_cell? w _ hx517_0)).trans hx517_0;replace hx517_1:=(HB.out.cell (World.block_lt_of_cell? w _ hx517_1)).trans hx517_1;replace hx517_2:=(HB.out.cell (World.block_lt_of_cell? w _ hx517_2)).trans hx517_2;replace hx517_3:=(HB.out.cell (World.block_lt_of_cell? w _ hx517_3)).trans hx517_3;replace hx517_4:=(HB.out.cell (World.block_lt_of_cell? w _ hx517_4)).trans hx517_4;replace p517:=eq_true p517;replace q517:=eq_true q517
             refine start_ (n:=9) (S:=fun w'=>w'.cell? ⟨gb511,0,none⟩ = some (.int .i64 ((rd_T47 l0 x16_1).f1.f0))∧w'.cell? ⟨gb511,1,none⟩ = some (.int .i64 ((rd_T47 l0 x16_1).f1.f1))∧w'.cell? ⟨gb511,2,none⟩ = some (.int .i64 ((rd_T47 l0 x16_1).f1.f2))∧w'.cell? ⟨gb511,3,none⟩ = some (.int .i64 ((rd_T47 l0 x16_1).f1.f3))∧w'.cell? (ad510.add ((x16_1).toNat * 5)) = some (.int .i64 ((rd_T47 l0 x16_1).f0))∧w'.cell? ⟨(ad510.add ((x16_1).toNat * 5)).block,(ad510.add ((x16_1).toNat * 5)).off + 1,none⟩ = some (.int .i64 ((rd_T47 l0 x16_1).f1.f0))∧w'.cell? ⟨(ad510.add ((x16_1).toNat * 5)).block,(ad510.add ((x16_1).toNat * 5)).off + 2,none⟩ = some (.int .i64 ((rd_T47 l0 x16_1).f1.f1))∧w'.cell? ⟨(ad510.add ((x16_1).toNat * 5)).block,(ad510.add ((x16_1).toNat * 5)).off + 3,none⟩ = some (.int .i64 ((rd_T47 l0 x16_1).f1.f2))∧w'.cell? ⟨(ad510.add ((x16_1).toNat * 5)).block,(ad510.add ((x16_1).toNat * 5)).off + 4,none⟩ = some (.int .i64 ((rd_T47 l0 x16_1).f1.f3))) (ds:=[]) #[F_,F_,F_,F_,F_,F_,F_,F_,F_] (by kernel_rfl) rfl rfl ⟨(blk_cell BK511.out 0).trans rfl,(blk_cell BK511.out 1).trans rfl,(blk_cell BK511.out 2).trans rfl,(blk_cell BK511.out 3).trans rfl,((HB.out.cell (World.block_lt_of_cell? w _ hw517_0)).trans hw517_0),((HB.out.cell (World.block_lt_of_cell? w _ hw517_1)).trans hw517_1),((HB.out.cell (World.block_lt_of_cell? w _ hw517_2)).trans hw517_2),((HB.out.cell (World.block_lt_of_cell? w _ hw517_3)).trans hw517_3),((HB.out.cell (World.block_lt_of_cell? w _ hw517_4)).trans hw517_4)⟩ (fun hHeld=>?_);refine with_tabW w18_GradientStops.tab14 w18_GradientStops.bits14 (fun HT_ HW_=>?_)
             generalize wc.drew = w32 at BK511 HB hx517_0 hx517_1 hx517_2 hx517_3 hx517_4 hHeld ⊢
             refine pure_ (i:=0) (N:=some 40) (v:=?_) (a':=?_) #[T_,F_,F_,F_,F_,F_,F_,F_,F_] rfl rfl (any_of HT_.out (by kernel_rfl)) (fun _ _ _ h=>h) (Or.inl ⟨by rfl,?_⟩) ?_ ?_
             rotate_left
             ·intro w'
              go_simp
              with_reducible rfl
             rotate_left
             ·simp only [Act.put,tS_,tZ_,tC_,i64_w,i32_w]
              rfl
             refine pure_ (i:=1) (N:=some 41) (v:=?_) (a':=?_) #[T_,T_,F_,F_,F_,F_,F_,F_,F_] rfl rfl (any_of HT_.out (by kernel_rfl)) (fun _ _ _ h=>h) (Or.inl ⟨by rfl,?_⟩) ?_ ?_
             rotate_left
             ·intro w'
              go_simp
              with_reducible rfl
             rotate_left
             ·simp only [Act.put,tS_,tZ_,tC_,i64_w,i32_w]
              rfl
             refine pure_ (i:=2) (N:=some 42) (v:=?_) (a':=?_) #[T_,T_,T_,F_,F_,F_,F_,F_,F_] rfl rfl (any_of HT_.out (by kernel_rfl)) (fun _ _ _ h=>h) (Or.inl ⟨by rfl,?_⟩) ?_ ?_
             rotate_left
             ·intro w'
              go_simp
              with_reducible rfl
             rotate_left
             ·simp only [Act.put,tS_,tZ_,tC_,i64_w,i32_w]
              rfl
             refine pure_ (i:=3) (N:=some 43) (v:=?_) (a':=?_) #[T_,T_,T_,T_,F_,F_,F_,F_,F_] rfl rfl (any_of HT_.out (by kernel_rfl)) (fun _ _ _ h=>h) (Or.inl ⟨by rfl,?_⟩) ?_ ?_
             rotate_left
             ·intro w'
              go_simp
              with_reducible rfl
             rotate_left
             ·simp only [Act.put,tS_,tZ_,tC_,i64_w,i32_w]
              rfl
             refine pure_ (i:=4) (N:=some 44) (v:=?_) (a':=?_) #[T_,T_,T_,T_,T_,F_,F_,F_,F_] rfl rfl (any_of HT_.out (by kernel_rfl)) (fun _ _ _ h=>h) (Or.inl ⟨by rfl,?_⟩) ?_ ?_
             rotate_left
             ·intro w'
              go_simp
              with_reducible rfl
             rotate_left
             ·simp only [Act.put,tS_,tZ_,tC_,i64_w,i32_w]
              rfl
             refine take_ (i:=5) (N:=some 45) (v:=?_) (a':=?_) #[T_,T_,T_,T_,T_,T_,F_,F_,F_] rfl rfl (take_ofW HT_.out HW_.out (by kernel_rfl)) (fun _ _ _ h=>h) (Or.inl ⟨by rfl,?_⟩) hHeld ?_ ?_
             rotate_left
             ·rintro w' ⟨s0,s1,s2,s3,s4,s5,s6,s7,s8⟩
              go_simp
              with_reducible rfl
             rotate_left
             ·simp only [Act.put,tS_,tZ_,tC_,i64_w,i32_w]
              rfl
             refine take_ (i:=7) (N:=some 47) (v:=?_) (a':=?_) #[T_,T_,T_,T_,T_,T_,F_,T_,F_] rfl rfl (take_ofW HT_.out HW_.out (by kernel_rfl)) (fun _ _ _ h=>h) (Or.inl ⟨by rfl,?_⟩) hHeld ?_ ?_
             rotate_left
             ·rintro w' ⟨s0,s1,s2,s3,s4,s5,s6,s7,s8⟩
              go_simp
              with_reducible rfl
             rotate_left
             ·simp only [Act.put,tS_,tZ_,tC_,i64_w,i32_w]
              rfl
             refine one_ (i:=6) (N:=some 46) #[T_,T_,T_,T_,T_,T_,T_,T_,F_] rfl rfl (one_of HT_.out (by kernel_rfl)) (by decide) (fun K hK=>?_)
             refine goes_ Try.func17 (by kernel_rfl) rfl #[.slice (some ad510) l0.length c0,.int .i64 ((rd_T47 l0 x16_1).f0)] (by rfl) rfl rfl (by (try simp only [mA_,mC_,mN_]);first|done|rfl|(simp only [dL_,kL_];rfl)) ?_
             with_reducible refine (gr_Color.calls kj13 _ _ l0 ((rd_T47 l0 x16_1).f0) t518 t519 t520 t521 _ ?side1 ?side2 A29.out).mono ?_
             (case side1=>repeat (first|exact (Kd.C_below HR0.out HB.out)|(with_reducible refine Kd.C_alloc ?_ _)|(with_reducible refine Kd.C_drewN ?_ _)|(with_reducible refine Kd.C_drew ?_)))
             (case side2=>exact HC0.out)
             rintro e w33 ⟨rfl,hb⟩;refine ⟨_,rfl,?_⟩
             have n0_:=Aside0.mk (blk_below (by (with_reducible repeat first|apply bN_|apply bD_|apply bA_);exact BK511.out) hb)
             have n1_:=Aside0.mk (below_step (by repeat first|(with_reducible first|exact HB.out|apply lA_|apply lN_|apply lD_|refine lS_ ?_ GE511.out)|exact HB.out) hb)
             clear BK511;clear HB;have BK511:=n0_;have HB:=n1_;clear n0_ n1_
             (try clear hb)
             (try clear hb2)
             (try clear hk)
             (try clear hi)
             refine hK.out _ _ ⟨(blk_cell BK511.out 0).trans rfl,(blk_cell BK511.out 1).trans rfl,(blk_cell BK511.out 2).trans rfl,(blk_cell BK511.out 3).trans rfl,((HB.out.cell (World.block_lt_of_cell? w _ hw517_0)).trans hw517_0),((HB.out.cell (World.block_lt_of_cell? w _ hw517_1)).trans hw517_1),((HB.out.cell (World.block_lt_of_cell? w _ hw517_2)).trans hw517_2),((HB.out.cell (World.block_lt_of_cell? w _ hw517_3)).trans hw517_3),((HB.out.cell (World.block_lt_of_cell? w _ hw517_4)).trans hw517_4)⟩ (fun hHeld=>?_)
             clear hK K;refine norm_ (a':=?_) ?_ ?_;rotate_left
             ·show Act.put _ (some 46) _ = _
              simp only [Act.put,tS_,tZ_,tC_,i64_w,i32_w];rfl
             refine pure_ (i:=8) (N:=some 48) (v:=?_) (a':=?_) #[T_,T_,T_,T_,T_,T_,T_,T_,T_] rfl rfl (any_of HT_.out (by kernel_rfl)) (fun _ _ _ h=>h) (Or.inl ⟨by rfl,?_⟩) ?_ ?_
             rotate_left
             ·intro w'
              go_simp
              with_reducible rfl
             rotate_left
             ·simp only [Act.put,tS_,tZ_,tC_,i64_w,i32_w]
              rfl
             refine done_ (done_of HT_.out (by kernel_rfl)) ?_
             try go_wp2
             go_roundg kj13
             case measure=>have:=HK1.out;have:=HJ8.out;have:=HJ13.out;omega
             case rel=>exact ⟨(x5_8),(x6_13),(wrap64 (x16_1 + 1)),(by first|rfl|(simp;done)|(simp [*];done)),(by first|rfl|(simp;done)|(simp [*];done)),(by first|rfl|(simp;done)|(simp [*];done)),H',⟨by have:=HK1.out;have:=HJ8.out;have:=HJ13.out;omega⟩,⟨by repeat first|(with_reducible first|exact HB.out|apply lA_|apply lN_|apply lD_|refine lS_ ?_ GE511.out)|exact HB.out⟩⟩
            rw [if_neg c28] at H
            exact absurd H (by simp)
           rw [if_neg c27] at H
           exact absurd H (by simp)
      rw [if_neg c8] at H
      exact absurd H (by simp)
     rw [if_neg c7] at H
     exact absurd H (by simp)
    rw [if_neg c6] at H;have c6b0:=decide_eq_false c6;clear c6;replace H:=Option.bind_eq_some_iff.mp H;obtain ⟨⟨t505,t506,t507,t508⟩,A340,H⟩:=H
    replace H:(if t508≥x5_1 then (if t508≤x6_1 then ((w18_awake.f k1).bind fun t509=>(some t509)) else (none)) else (none)) = some r:=H
    have A34:=Aside0.mk A340;clear A340;by_cases c35:t508≥x5_1
    ·rw [if_pos c35] at H
     have c35b0:=decide_eq_true c35;clear c35;by_cases c36:t508≤x6_1
     ·rw [if_pos c36] at H
      have c36b0:=decide_eq_true c36;clear c36;replace H:=Option.bind_eq_some_iff.mp H;obtain ⟨t509,A370,H⟩:=H;replace H:(some t509) = some r:=H;have A37:=Aside0.mk A370;clear A370;obtain rfl:=Option.some.inj H
      go_wp2_with (first|((with_reducible refine gate_callee (f:=17) rfl ?_);refine goesL_ (some 52) rfl rfl Try.func17 (by kernel_rfl) rfl #[.slice A0 l0.length c0,.int .i64 a1] rfl (by (try simp only [mA_,mC_,mN_]);first|done|rfl|(simp only [dL_,kL_];rfl)) ?_;(with_reducible refine (gr_Color.calls k1 _ _ l0 a1 t505 t506 t507 t508 _ ?side1 ?side2 A34.out).mono ?_);(case side1=>repeat (first|exact (Kd.C_below HR0.out HB.out)|(with_reducible refine Kd.C_alloc ?_ _)|(with_reducible refine Kd.C_drewN ?_ _)|(with_reducible refine Kd.C_drew ?_)));(case side2=>exact HC0.out);rintro e w38 ⟨rfl,hb⟩;refine ⟨_,rfl,?_⟩;have n0_:=Aside0.mk (below_step (by repeat first|(with_reducible first|exact HB.out|apply lA_|apply lN_|apply lD_)|exact HB.out) hb);clear HB;have HB:=n0_;clear n0_;(try clear hb);(try clear hb2);(try clear hk);(try clear hi))|(go_at_call 13;(with_reducible refine (w18_awake.calls k1  t509 _ A37.out).mono ?_);rintro e w39 ⟨rfl,hb⟩;have n0_:=Aside0.mk (below_step (by repeat first|(with_reducible first|exact HB.out|apply lA_|apply lN_|apply lD_)|exact HB.out) hb);clear HB;have HB:=n0_;clear n0_;(try clear hb);(try clear hb2);(try clear hk);(try clear hi)))
      go_ret
      exact ⟨by first|rfl|(simp [errW_none,errW_some] <;> rfl)|(simp [*,errW_none,errW_some] <;> rfl),by repeat first|(with_reducible first|exact HB.out|apply lA_|apply lN_|apply lD_)|exact HB.out⟩
     rw [if_neg c36] at H
     exact absurd H (by simp)
    rw [if_neg c35] at H
    exact absurd H (by simp)
 rw [if_neg c4] at H;have c4b0:(t503 == 0) = false:=beq_eq_false_iff_ne.mpr c4;have c4b1:(t503 != 0) = true:=bne_iff_ne.mpr c4;replace H:=Option.bind_eq_some_iff.mp H;obtain ⟨t504,A400,H⟩:=H;replace H:(some t504) = some r:=H;have A40:=Aside0.mk A400;clear A400;obtain rfl:=Option.some.inj H
 go_enter Try.func8,Try.ntmps8
 go_wp2_with (first|((with_reducible refine gate_callee (f:=22) rfl ?_);refine goesL_ (some 11) rfl rfl Try.func22 (by kernel_rfl) rfl #[.slice A0 l0.length c0] rfl (by (try simp only [mA_,mC_,mN_]);first|done|rfl|(simp only [dL_,kL_];rfl)) ?_;(with_reducible refine (r18_Stops.calls k _ _ l0 t503 _ ?side1 ?side2 A3.out).mono ?_);(case side1=>repeat (first|exact HR0.out|(with_reducible refine Kd.C_alloc ?_ _)|(with_reducible refine Kd.C_drewN ?_ _)|(with_reducible refine Kd.C_drew ?_)));(case side2=>exact HC0.out);rintro e w41 ⟨rfl,hb⟩;refine ⟨_,rfl,?_⟩;have n0_:=Aside0.mk (below_step (by repeat first|(with_reducible first|exact HB.out|apply lA_|apply lN_|apply lD_)|exact HB.out) hb);clear HB;have HB:=n0_;clear n0_;(try clear hb);(try clear hb2);(try clear hk);(try clear hi))|((with_reducible refine gate_callee (f:=13) rfl ?_);refine goesL_ (some 13) rfl rfl Try.func13 (by kernel_rfl) rfl #[] rfl (by (try simp only [mA_,mC_,mN_]);first|done|rfl|(simp only [dL_,kL_];rfl)) ?_;(with_reducible refine (w18_awake.calls k  t504 _ A40.out).mono ?_);rintro e w42 ⟨rfl,hb⟩;refine ⟨_,rfl,?_⟩;have n0_:=Aside0.mk (below_step (by repeat first|(with_reducible first|exact HB.out|apply lA_|apply lN_|apply lD_)|exact HB.out) hb);clear HB;have HB:=n0_;clear n0_;(try clear hb);(try clear hb2);(try clear hk);(try clear hi)))
 go_ret
 exact ⟨by first|rfl|(simp [errW_none,errW_some] <;> rfl)|(simp [*,errW_none,errW_some] <;> rfl),by repeat first|(with_reducible first|exact HB.out|apply lA_|apply lN_|apply lD_)|exact HB.out⟩


end Go.Proofs.Ytmlcobnidfkhfaa.Q
