/- Each Go function of the law as a Lean function, with the proof that its call comes to just that, for every input; written by hp.py, a program of this session over the kit own print of the translation. -/
import Derived.Test.YtmlcobnidfkhfaaQ0
import Derived.Test.YtmlcobnidfkhfaaQ4
import Derived.Test.YtmlcobnidfkhfaaQ8
import Derived.Test.YtmlcobnidfkhfaaQ9
namespace Go.Proofs.Ytmlcobnidfkhfaa.Q
open Go.RowKit Go.Proofs.YtmlcobnidfkhfaaW.PrintWords Go.Proofs.YtmlcobnidfkhfaaW.PrintLast Go.Proofs.YtmlcobnidfkhfaaW.PrintMore
attribute [local go_sem] max2_int min2_int max_two min_two max_three min_three max_four min_four   -- for this text's walks alone
set_option linter.unusedVariables false
set_option linter.unusedSimpArgs false
open Go.Proofs.Ytmlcobnidfkhfaa.Clo Go.Proofs.Ytmlcobnidfkhfaa.Mk0

/-! ### pixel_Mix: function 45 -/
def pixel_Mix.j0:Nat→Int→Int→Int→Int→Int→Int→Int→Int→Int→Int→Int→Int→Option (Int × Int × Int × Int)
 | 0,_,_,_,_,_,_,_,_,_,_,_,_=>none
 | k+1,x10,x217000,x217001,x217002,x217003,x218000,x218001,x218002,x218003,x229000,x230000,x231000=>(pixel_Mix_1.f k x217000 x218000 x229000 x230000 x231000).bind fun t232=>((pixel_Mix_1.f k x217001 x218001 x229000 x230000 x231000).bind fun t233=>((pixel_Mix_1.f k x217002 x218002 x229000 x230000 x231000).bind fun t234=>(some (t232,t233,t234,x10))))
def pixel_Mix.f (k:Nat) (a0_0:Int) (a0_1:Int) (a0_2:Int) (a0_3:Int) (a1_0:Int) (a1_1:Int) (a1_2:Int) (a1_3:Int) (a2:Int):Option (Int × Int × Int × Int):=(pixel_Limit.f a0_0 a0_1 a0_2 a0_3).bind fun bt219=>((pixel_Limit.f a1_0 a1_1 a1_2 a1_3).bind fun bt223=>((pixel_unit.f a2).bind fun t227=>((num_Div.f k (wrap64 ((wrap64 (bt219.2.2.2*(wrap64 (65535-t227))))+(wrap64 (bt223.2.2.2*t227)))) 65535).bind fun t231=>(if t231=0 then (some (0,0,0,0)) else (pixel_Mix.j0 k t231 bt219.1 bt219.2.1 bt219.2.2.1 bt219.2.2.2 bt223.1 bt223.2.1 bt223.2.2.1 bt223.2.2.2 (wrap64 (bt219.2.2.2*(wrap64 (65535-t227)))) (wrap64 (bt223.2.2.2*t227)) (wrap64 ((wrap64 (bt219.2.2.2*(wrap64 (65535-t227))))+(wrap64 (bt223.2.2.2*t227)))))))))
theorem pixel_Mix.mono_l:∀ k,(∀ y0 y1 y2 y3 y4 y5 y6 y7 y8 y9 y10 y11,LeO (pixel_Mix.j0 k y0 y1 y2 y3 y4 y5 y6 y7 y8 y9 y10 y11) (pixel_Mix.j0 (k+1) y0 y1 y2 y3 y4 y5 y6 y7 y8 y9 y10 y11))
 | 0=>fun _ _ _ _ _ _ _ _ _ _ _ _ r h=>by simp [pixel_Mix.j0] at h
 | k+1=>by
  have ih0:=pixel_Mix.mono_l k
  ·intro y0 y1 y2 y3 y4 y5 y6 y7 y8 y9 y10 y11
   unfold pixel_Mix.j0
   repeat' first
   | (with_reducible exact ih0 _ _ _ _ _ _ _ _ _ _ _ _)
   | (with_reducible exact num_Div.mono _ _ _)
   | (with_reducible exact pixel_Mix_1.mono _ _ _ _ _ _)
   | (with_reducible exact LeO.refl _)
   | (with_reducible exact LeO.none _)
   | (with_reducible refine LeO.ite ?_ ?_)
   | (with_reducible refine LeO.bind ?_ (fun _=>?_))
theorem pixel_Mix.mono:∀ a0 a1 a2 a3 a4 a5 a6 a7 a8 k,LeO (pixel_Mix.f k a0 a1 a2 a3 a4 a5 a6 a7 a8) (pixel_Mix.f (k+1) a0 a1 a2 a3 a4 a5 a6 a7 a8):=by
 intro a0 a1 a2 a3 a4 a5 a6 a7 a8 k;have ih0:=pixel_Mix.mono_l k
 unfold pixel_Mix.f
 repeat' first
   | (with_reducible exact ih0 _ _ _ _ _ _ _ _ _ _ _ _)
   | (with_reducible exact num_Div.mono _ _ _)
   | (with_reducible exact pixel_Mix_1.mono _ _ _ _ _ _)
   | (with_reducible exact LeO.refl _)
   | (with_reducible exact LeO.none _)
   | (with_reducible refine LeO.ite ?_ ?_)
   | (with_reducible refine LeO.bind ?_ (fun _=>?_))
def pixel_Mix.T1:Bool × List (List Nat × List Nat):=(true,[([],[]),([0],[0]),([],[]),([2,1],[2]),([],[]),([4,3],[4]),([1,5,0,1],[1]),([3,6,0,1,2,3,6],[3]),([5,7,0,1,2,3,4,5,6,7],[4,5])])
def pixel_Mix.B1:List Nat:=[0,1,0,7,0,31,63,127,255]
theorem pixel_Mix.tab1:rtab .any (opsOf Try.f45 1)=pixel_Mix.T1:=by kernel_rfl
theorem pixel_Mix.bits1:waitsOk pixel_Mix.T1.2 pixel_Mix.B1=true:=by kernel_rfl
def pixel_Mix.T2:Bool × List (List Nat × List Nat):=(true,[([],[]),([0],[0]),([],[]),([2],[2]),([1,3],[1,3]),([],[]),([5],[5]),([],[]),([6,7],[6,7]),([],[]),([],[]),([9,4,0,1,2,3,4,9,10],[4,9]),([10,8,11,0,1,2,3,4,5,6,7,8,9,10,11],[8,10])])
def pixel_Mix.B2:List Nat:=[0,1,0,4,15,0,32,0,224,0,0,1567,4095]
theorem pixel_Mix.tab2:rtab .any (opsOf Try.f45 2)=pixel_Mix.T2:=by kernel_rfl
theorem pixel_Mix.bits2:waitsOk pixel_Mix.T2.2 pixel_Mix.B2=true:=by kernel_rfl
def pixel_Mix.T8:Bool × List (List Nat × List Nat):=(true,[([],[]),([],[]),([1],[1]),([],[]),([3],[3]),([0,2,4],[0,2,4]),([],[]),([],[]),([7],[7]),([],[]),([9],[9]),([6,8,10,5],[6,8,10]),([],[]),([],[]),([13],[13]),([],[]),([15],[15]),([12,14,16,11],[12,14,16]),([],[]),([5,11,17,18],[5,11,17,18]),([19,17,0,1,2,3,4,5,6,7,8,9,10,11,12,13,14,15,16,17,18,19],[19])])
def pixel_Mix.B8:List Nat:=[0,0,2,0,8,31,0,0,128,0,512,2047,0,0,8192,0,32768,131071,0,524287,1048575]
theorem pixel_Mix.tab8:rtab .any (opsOf Try.f45 8)=pixel_Mix.T8:=by kernel_rfl
theorem pixel_Mix.bits8:waitsOk pixel_Mix.T8.2 pixel_Mix.B8=true:=by kernel_rfl
set_option maxHeartbeats 8000000 in
set_option maxRecDepth 100000 in
theorem pixel_Mix.calls (k:Nat) (a0_0:Int) (a0_1:Int) (a0_2:Int) (a0_3:Int) (a1_0:Int) (a1_1:Int) (a1_2:Int) (a1_3:Int) (a2:Int) (r1:Int) (r2:Int) (r3:Int) (r4:Int) (w:World) (h:pixel_Mix.f k a0_0 a0_1 a0_2 a0_3 a1_0 a1_1 a1_2 a1_3 a2=some (r1,r2,r3,r4)) :
  Calls Try.prog 45 #[.agg #[.int .i64 a0_0,.int .i64 a0_1,.int .i64 a0_2,.int .i64 a0_3],.agg #[.int .i64 a1_0,.int .i64 a1_1,.int .i64 a1_2,.int .i64 a1_3],.int .i64 a2] w fun e w'=>e = .returned (.agg #[.int .i64 r1,.int .i64 r2,.int .i64 r3,.int .i64 r4])∧Below w.heap.size w w':=by
 have hu38:=Try.underlying38;have HB:=Aside0.mk (Below.refl w.heap.size w)
 have H:((pixel_Limit.f a0_0 a0_1 a0_2 a0_3).bind fun bt219=>((pixel_Limit.f a1_0 a1_1 a1_2 a1_3).bind fun bt223=>((pixel_unit.f a2).bind fun t227=>((num_Div.f k (wrap64 ((wrap64 (bt219.2.2.2*(wrap64 (65535-t227))))+(wrap64 (bt223.2.2.2*t227)))) 65535).bind fun t231=>(if t231=0 then (some (0,0,0,0)) else (pixel_Mix.j0 k t231 bt219.1 bt219.2.1 bt219.2.2.1 bt219.2.2.2 bt223.1 bt223.2.1 bt223.2.2.1 bt223.2.2.2 (wrap64 (bt219.2.2.2*(wrap64 (65535-t227)))) (wrap64 (bt223.2.2.2*t227)) (wrap64 ((wrap64 (bt219.2.2.2*(wrap64 (65535-t227))))+(wrap64 (bt223.2.2.2*t227))))))))))=some (r1,r2,r3,r4):=h
 clear h;replace H:=Option.bind_eq_some_iff.mp H;obtain ⟨⟨t219,t220,t221,t222⟩,A40,H⟩:=H
 replace H:((pixel_Limit.f a1_0 a1_1 a1_2 a1_3).bind fun bt223=>((pixel_unit.f a2).bind fun t227=>((num_Div.f k (wrap64 ((wrap64 (t222*(wrap64 (65535-t227))))+(wrap64 (bt223.2.2.2*t227)))) 65535).bind fun t231=>(if t231=0 then (some (0,0,0,0)) else (pixel_Mix.j0 k t231 t219 t220 t221 t222 bt223.1 bt223.2.1 bt223.2.2.1 bt223.2.2.2 (wrap64 (t222*(wrap64 (65535-t227)))) (wrap64 (bt223.2.2.2*t227)) (wrap64 ((wrap64 (t222*(wrap64 (65535-t227))))+(wrap64 (bt223.2.2.2*t227)))))))))=some (r1,r2,r3,r4):=H
 have A4:=Aside0.mk A40;clear A40;replace H:=Option.bind_eq_some_iff.mp H;obtain ⟨⟨t223,t224,t225,t226⟩,A50,H⟩:=H
 replace H:((pixel_unit.f a2).bind fun t227=>((num_Div.f k (wrap64 ((wrap64 (t222*(wrap64 (65535-t227))))+(wrap64 (t226*t227)))) 65535).bind fun t231=>(if t231=0 then (some (0,0,0,0)) else (pixel_Mix.j0 k t231 t219 t220 t221 t222 t223 t224 t225 t226 (wrap64 (t222*(wrap64 (65535-t227)))) (wrap64 (t226*t227)) (wrap64 ((wrap64 (t222*(wrap64 (65535-t227))))+(wrap64 (t226*t227))))))))=some (r1,r2,r3,r4):=H
 have A5:=Aside0.mk A50;clear A50;replace H:=Option.bind_eq_some_iff.mp H;obtain ⟨t227,A60,H⟩:=H
 replace H:((num_Div.f k (wrap64 ((wrap64 (t222*(wrap64 (65535-t227))))+(wrap64 (t226*t227)))) 65535).bind fun t231=>(if t231=0 then (some (0,0,0,0)) else (pixel_Mix.j0 k t231 t219 t220 t221 t222 t223 t224 t225 t226 (wrap64 (t222*(wrap64 (65535-t227)))) (wrap64 (t226*t227)) (wrap64 ((wrap64 (t222*(wrap64 (65535-t227))))+(wrap64 (t226*t227)))))))=some (r1,r2,r3,r4):=H
 have A6:=Aside0.mk A60;clear A60;replace H:=Option.bind_eq_some_iff.mp H;obtain ⟨t231,A70,H⟩:=H
 replace H:(if t231=0 then (some (0,0,0,0)) else (pixel_Mix.j0 k t231 t219 t220 t221 t222 t223 t224 t225 t226 (wrap64 (t222*(wrap64 (65535-t227)))) (wrap64 (t226*t227)) (wrap64 ((wrap64 (t222*(wrap64 (65535-t227))))+(wrap64 (t226*t227))))))=some (r1,r2,r3,r4):=H
 have A7:=Aside0.mk A70;clear A70;have HC8:=Aside0.mk H;clear H
 go_enter Try.func45,Try.ntmps45
 try go_wp2_with (first|((with_reducible refine gate_dst (N:=3) rfl ?_);refine box_event ?hg (N:=3) ?hd (cs:=#[.int .i64 a0_0,.int .i64 a0_1,.int .i64 a0_2,.int .i64 a0_3]) (t:=38) ?hr ?_;(case hd=>rfl);(case hg=>rfl);(case hr=>first|(go_simp;done)|(go_simp;rfl));intro gb216 hg w9 hbox hb;have n0_:=Aside0.mk (below_step (by repeat first|(with_reducible first|exact HB.out|apply lA_|apply lN_|apply lD_)|exact HB.out) hb);have n1_:=Aside0.mk (hbox);have n2_:=Aside0.mk ((by rw [hg];exact (below_size (by repeat first|(with_reducible first|exact HB.out|apply lA_|apply lN_|apply lD_)|exact HB.out)):w.heap.size≤gb216));have n3_:=Aside0.mk ((by rw [hg];exact (below_size (by repeat first|(with_reducible first|exact HB.out|apply lA_|apply lN_|apply lD_)|exact HB.out)):w.heap.size≤gb216));clear HB;have HB:=n0_;have BK216:=n1_;have GW216:=n2_;have GE216:=n3_;clear n0_ n1_ n2_ n3_;clear hb hbox hg)|((with_reducible refine gate_dst (N:=4) rfl ?_);refine box_event ?hg (N:=4) ?hd (cs:=#[.int .i64 a1_0,.int .i64 a1_1,.int .i64 a1_2,.int .i64 a1_3]) (t:=38) ?hr ?_;(case hd=>rfl);(case hg=>rfl);(case hr=>first|(go_simp;done)|(go_simp;rfl));intro gb217 hg w10 hbox hb;have n0_:=Aside0.mk (blk_below (by (with_reducible repeat first|apply bN_|apply bD_|apply bA_);exact BK216.out) hb);have n1_:=Aside0.mk (below_step (by repeat first|(with_reducible first|exact HB.out|apply lA_|apply lN_|apply lD_|refine lS_ ?_ GE216.out)|exact HB.out) hb);have n2_:=Aside0.mk (hbox);have n3_:=Aside0.mk ((by rw [hg];exact (below_size (by repeat first|(with_reducible first|exact HB.out|apply lA_|apply lN_|apply lD_|refine lS_ ?_ GE216.out)|exact HB.out)):w.heap.size≤gb217));have n4_:=Aside0.mk ((by rw [hg];exact (below_size (by repeat first|(with_reducible first|exact HB.out|apply lA_|apply lN_|apply lD_|refine lS_ ?_ GE216.out)|exact HB.out)):w.heap.size≤gb217));have n5_:=Aside0.mk ((by rw [hg];exact Nat.ne_of_lt (blk_lt (g:=gb216) (o:=.cells #[.int .i64 a0_0,.int .i64 a0_1,.int .i64 a0_2,.int .i64 a0_3] 38 (0,0)) (by (with_reducible repeat first|apply bN_|apply bD_|apply bA_);exact BK216.out)):gb216 ≠ gb217));have n6_:=Aside0.mk ((by rw [hg];exact Nat.ne_of_gt (blk_lt (g:=gb216) (o:=.cells #[.int .i64 a0_0,.int .i64 a0_1,.int .i64 a0_2,.int .i64 a0_3] 38 (0,0)) (by (with_reducible repeat first|apply bN_|apply bD_|apply bA_);exact BK216.out)):gb217 ≠ gb216));clear BK216;clear HB;have BK216:=n0_;have HB:=n1_;have BK217:=n2_;have GW217:=n3_;have GE217:=n4_;have NB216_217:=n5_;have NB217_216:=n6_;clear n0_ n1_ n2_ n3_ n4_ n5_ n6_;clear hb hbox hg)|((with_reducible refine gate_dst (N:=6) rfl ?_);refine box_event ?hg (N:=6) ?hd (cs:=#[.int .i64 0,.int .i64 0,.int .i64 0,.int .i64 0]) (t:=38) ?hr ?_;(case hd=>rfl);(case hg=>rfl);(case hr=>first|(go_simp;done)|(go_simp;rfl));intro gb218 hg w11 hbox hb;have n0_:=Aside0.mk (blk_below (by (with_reducible repeat first|apply bN_|apply bD_|apply bA_);exact BK216.out) hb);have n1_:=Aside0.mk (blk_below (by (with_reducible repeat first|apply bN_|apply bD_|apply bA_);exact BK217.out) hb);have n2_:=Aside0.mk (below_step (by repeat first|(with_reducible first|exact HB.out|apply lA_|apply lN_|apply lD_|refine lS_ ?_ GE216.out|refine lS_ ?_ GE217.out)|exact HB.out) hb);have n3_:=Aside0.mk (hbox);have n4_:=Aside0.mk ((by rw [hg];exact (below_size (by repeat first|(with_reducible first|exact HB.out|apply lA_|apply lN_|apply lD_|refine lS_ ?_ GE216.out|refine lS_ ?_ GE217.out)|exact HB.out)):w.heap.size≤gb218));have n5_:=Aside0.mk ((by rw [hg];exact (below_size (by repeat first|(with_reducible first|exact HB.out|apply lA_|apply lN_|apply lD_|refine lS_ ?_ GE216.out|refine lS_ ?_ GE217.out)|exact HB.out)):w.heap.size≤gb218));have n6_:=Aside0.mk ((by rw [hg];exact Nat.ne_of_lt (blk_lt (g:=gb216) (o:=.cells #[.int .i64 a0_0,.int .i64 a0_1,.int .i64 a0_2,.int .i64 a0_3] 38 (0,0)) (by (with_reducible repeat first|apply bN_|apply bD_|apply bA_);exact BK216.out)):gb216 ≠ gb218));have n7_:=Aside0.mk ((by rw [hg];exact Nat.ne_of_gt (blk_lt (g:=gb216) (o:=.cells #[.int .i64 a0_0,.int .i64 a0_1,.int .i64 a0_2,.int .i64 a0_3] 38 (0,0)) (by (with_reducible repeat first|apply bN_|apply bD_|apply bA_);exact BK216.out)):gb218 ≠ gb216));have n8_:=Aside0.mk ((by rw [hg];exact Nat.ne_of_lt (blk_lt (g:=gb217) (o:=.cells #[.int .i64 a1_0,.int .i64 a1_1,.int .i64 a1_2,.int .i64 a1_3] 38 (0,0)) (by (with_reducible repeat first|apply bN_|apply bD_|apply bA_);exact BK217.out)):gb217 ≠ gb218));have n9_:=Aside0.mk ((by rw [hg];exact Nat.ne_of_gt (blk_lt (g:=gb217) (o:=.cells #[.int .i64 a1_0,.int .i64 a1_1,.int .i64 a1_2,.int .i64 a1_3] 38 (0,0)) (by (with_reducible repeat first|apply bN_|apply bD_|apply bA_);exact BK217.out)):gb218 ≠ gb217));clear BK216;clear BK217;clear HB;have BK216:=n0_;have BK217:=n1_;have HB:=n2_;have BK218:=n3_;have GW218:=n4_;have GE218:=n5_;have NB216_218:=n6_;have NB218_216:=n7_;have NB217_218:=n8_;have NB218_217:=n9_;clear n0_ n1_ n2_ n3_ n4_ n5_ n6_ n7_ n8_ n9_;clear hb hbox hg))
 have n0_:=Aside0.mk (blk_drew BK216.out);have n1_:=Aside0.mk (blk_drew BK217.out);have n2_:=Aside0.mk (blk_drew BK218.out);have n3_:=Aside0.mk (lD_ HB.out);clear BK216 BK217 BK218 HB;have BK216:=n0_;have BK217:=n1_;have BK218:=n2_;have HB:=n3_;clear n0_ n1_ n2_ n3_
 refine start_ (n:=9) (S:=fun w'=>w'.cell? ⟨gb216,0,none⟩=some (.int .i64 a0_0)∧w'.cell? ⟨gb216,1,none⟩=some (.int .i64 a0_1)∧w'.cell? ⟨gb216,2,none⟩=some (.int .i64 a0_2)∧w'.cell? ⟨gb216,3,none⟩=some (.int .i64 a0_3)∧w'.cell? ⟨gb217,0,none⟩=some (.int .i64 a1_0)∧w'.cell? ⟨gb217,1,none⟩=some (.int .i64 a1_1)∧w'.cell? ⟨gb217,2,none⟩=some (.int .i64 a1_2)∧w'.cell? ⟨gb217,3,none⟩=some (.int .i64 a1_3)) (ds:=[6,7]) #[F_,F_,F_,F_,F_,F_,F_,F_,F_] (by kernel_rfl) rfl rfl ⟨(blk_cell BK216.out 0).trans rfl,(blk_cell BK216.out 1).trans rfl,(blk_cell BK216.out 2).trans rfl,(blk_cell BK216.out 3).trans rfl,(blk_cell BK217.out 0).trans rfl,(blk_cell BK217.out 1).trans rfl,(blk_cell BK217.out 2).trans rfl,(blk_cell BK217.out 3).trans rfl⟩ (fun hHeld=>?_);refine with_tabW pixel_Mix.tab1 pixel_Mix.bits1 (fun HT_ HW_=>?_)
 generalize w11.drew=w12 at BK216 BK217 BK218 HB hHeld ⊢
 refine pure_ (i:=4) (N:=some 16) (v:=?_) (a':=?_) #[F_,F_,F_,F_,T_,F_,F_,F_,F_] rfl rfl (any_of HT_.out (by kernel_rfl)) (fun _ _ _ h=>h) (Or.inl ⟨by rfl,?_⟩) ?_ ?_
 rotate_left
 ·intro w'
  go_simp
  with_reducible rfl
 rotate_left
 ·simp only [Act.put,tS_,tZ_,tC_,i64_w,i32_w]
  rfl
 refine take_ (i:=0) (N:=some 12) (v:=?_) (a':=?_) #[T_,F_,F_,F_,T_,F_,F_,F_,F_] rfl rfl (take_ofW HT_.out HW_.out (by kernel_rfl)) (fun _ _ _ h=>h) (Or.inl ⟨by rfl,?_⟩) hHeld ?_ ?_
 rotate_left
 ·rintro w' ⟨s0,s1,s2,s3,s4,s5,s6,s7⟩
  go_simp
  with_reducible rfl
 rotate_left
 ·simp only [Act.put,tS_,tZ_,tC_,i64_w,i32_w]
  rfl
 refine take_ (i:=2) (N:=some 14) (v:=?_) (a':=?_) #[T_,F_,T_,F_,T_,F_,F_,F_,F_] rfl rfl (take_ofW HT_.out HW_.out (by kernel_rfl)) (fun _ _ _ h=>h) (Or.inl ⟨by rfl,?_⟩) hHeld ?_ ?_
 rotate_left
 ·rintro w' ⟨s0,s1,s2,s3,s4,s5,s6,s7⟩
  go_simp
  with_reducible rfl
 rotate_left
 ·simp only [Act.put,tS_,tZ_,tC_,i64_w,i32_w]
  rfl
 refine one_ (i:=1) (N:=some 13) #[T_,T_,T_,F_,T_,F_,F_,F_,F_] rfl rfl (one_of HT_.out (by kernel_rfl)) (by decide) (fun K hK=>?_)
 refine goes_ Try.func58 (by kernel_rfl) rfl #[.agg #[.int .i64 a0_0,.int .i64 a0_1,.int .i64 a0_2,.int .i64 a0_3]] (by rfl) rfl rfl (by (try simp only [mA_,mC_,mN_]);first|done|rfl|(simp only [dL_,kL_];rfl)) ?_
 with_reducible refine (pixel_Limit.calls a0_0 a0_1 a0_2 a0_3 t219 t220 t221 t222 _ A4.out).mono ?_
 rintro e w13 ⟨rfl,hb⟩;refine ⟨_,rfl,?_⟩
 have n0_:=Aside0.mk (blk_below (by (with_reducible repeat first|apply bN_|apply bD_|apply bA_);exact BK216.out) hb)
 have n1_:=Aside0.mk (blk_below (by (with_reducible repeat first|apply bN_|apply bD_|apply bA_);exact BK217.out) hb)
 have n2_:=Aside0.mk (blk_below (by (with_reducible repeat first|apply bN_|apply bD_|apply bA_);exact BK218.out) hb)
 have n3_:=Aside0.mk (below_step (by repeat first|(with_reducible first|exact HB.out|apply lA_|apply lN_|apply lD_|refine lS_ ?_ GE216.out|refine lS_ ?_ GE217.out|refine lS_ ?_ GE218.out)|exact HB.out) hb)
 clear BK216 BK217 BK218 HB;have BK216:=n0_;have BK217:=n1_;have BK218:=n2_;have HB:=n3_;clear n0_ n1_ n2_ n3_
 (try clear hb)
 (try clear hb2)
 (try clear hk)
 (try clear hi)
 refine hK.out _ _ ⟨(blk_cell BK216.out 0).trans rfl,(blk_cell BK216.out 1).trans rfl,(blk_cell BK216.out 2).trans rfl,(blk_cell BK216.out 3).trans rfl,(blk_cell BK217.out 0).trans rfl,(blk_cell BK217.out 1).trans rfl,(blk_cell BK217.out 2).trans rfl,(blk_cell BK217.out 3).trans rfl⟩ (fun hHeld=>?_)
 clear hK K;refine norm_ (a':=?_) ?_ ?_;rotate_left
 ·show Act.put _ (some 13) _=_
  simp only [Act.put,tS_,tZ_,tC_,i64_w,i32_w];rfl
 refine one_ (i:=3) (N:=some 15) #[T_,T_,T_,T_,T_,F_,F_,F_,F_] rfl rfl (one_of HT_.out (by kernel_rfl)) (by decide) (fun K hK=>?_)
 refine goes_ Try.func58 (by kernel_rfl) rfl #[.agg #[.int .i64 a1_0,.int .i64 a1_1,.int .i64 a1_2,.int .i64 a1_3]] (by rfl) rfl rfl (by (try simp only [mA_,mC_,mN_]);first|done|rfl|(simp only [dL_,kL_];rfl)) ?_
 with_reducible refine (pixel_Limit.calls a1_0 a1_1 a1_2 a1_3 t223 t224 t225 t226 _ A5.out).mono ?_
 rintro e w14 ⟨rfl,hb⟩;refine ⟨_,rfl,?_⟩
 have n0_:=Aside0.mk (blk_below (by (with_reducible repeat first|apply bN_|apply bD_|apply bA_);exact BK216.out) hb)
 have n1_:=Aside0.mk (blk_below (by (with_reducible repeat first|apply bN_|apply bD_|apply bA_);exact BK217.out) hb)
 have n2_:=Aside0.mk (blk_below (by (with_reducible repeat first|apply bN_|apply bD_|apply bA_);exact BK218.out) hb)
 have n3_:=Aside0.mk (below_step (by repeat first|(with_reducible first|exact HB.out|apply lA_|apply lN_|apply lD_|refine lS_ ?_ GE216.out|refine lS_ ?_ GE217.out|refine lS_ ?_ GE218.out)|exact HB.out) hb)
 clear BK216 BK217 BK218 HB;have BK216:=n0_;have BK217:=n1_;have BK218:=n2_;have HB:=n3_;clear n0_ n1_ n2_ n3_
 (try clear hb)
 (try clear hb2)
 (try clear hk)
 (try clear hi)
 refine hK.out _ _ ⟨(blk_cell BK216.out 0).trans rfl,(blk_cell BK216.out 1).trans rfl,(blk_cell BK216.out 2).trans rfl,(blk_cell BK216.out 3).trans rfl,(blk_cell BK217.out 0).trans rfl,(blk_cell BK217.out 1).trans rfl,(blk_cell BK217.out 2).trans rfl,(blk_cell BK217.out 3).trans rfl⟩ (fun hHeld=>?_)
 clear hK K;refine norm_ (a':=?_) ?_ ?_;rotate_left
 ·show Act.put _ (some 15) _=_
  simp only [Act.put,tS_,tZ_,tC_,i64_w,i32_w];rfl
 refine one_ (i:=5) (N:=some 17) #[T_,T_,T_,T_,T_,T_,F_,F_,F_] rfl rfl (one_of HT_.out (by kernel_rfl)) (by decide) (fun K hK=>?_)
 refine goes_ Try.func59 (by kernel_rfl) rfl #[.int .i64 a2] (by rfl) rfl rfl (by (try simp only [mA_,mC_,mN_]);first|done|rfl|(simp only [dL_,kL_];rfl)) ?_
 with_reducible refine (pixel_unit.calls a2 t227 _ A6.out).mono ?_
 rintro e w15 ⟨rfl,hb⟩;refine ⟨_,rfl,?_⟩
 have n0_:=Aside0.mk (blk_below (by (with_reducible repeat first|apply bN_|apply bD_|apply bA_);exact BK216.out) hb)
 have n1_:=Aside0.mk (blk_below (by (with_reducible repeat first|apply bN_|apply bD_|apply bA_);exact BK217.out) hb)
 have n2_:=Aside0.mk (blk_below (by (with_reducible repeat first|apply bN_|apply bD_|apply bA_);exact BK218.out) hb)
 have n3_:=Aside0.mk (below_step (by repeat first|(with_reducible first|exact HB.out|apply lA_|apply lN_|apply lD_|refine lS_ ?_ GE216.out|refine lS_ ?_ GE217.out|refine lS_ ?_ GE218.out)|exact HB.out) hb)
 clear BK216 BK217 BK218 HB;have BK216:=n0_;have BK217:=n1_;have BK218:=n2_;have HB:=n3_;clear n0_ n1_ n2_ n3_
 (try clear hb)
 (try clear hb2)
 (try clear hk)
 (try clear hi)
 refine hK.out _ _ ⟨(blk_cell BK216.out 0).trans rfl,(blk_cell BK216.out 1).trans rfl,(blk_cell BK216.out 2).trans rfl,(blk_cell BK216.out 3).trans rfl,(blk_cell BK217.out 0).trans rfl,(blk_cell BK217.out 1).trans rfl,(blk_cell BK217.out 2).trans rfl,(blk_cell BK217.out 3).trans rfl⟩ (fun hHeld=>?_)
 clear hK K;refine norm_ (a':=?_) ?_ ?_;rotate_left
 ·show Act.put _ (some 17) _=_
  simp only [Act.put,tS_,tZ_,tC_,i64_w,i32_w];rfl
 refine last_ (i:=6) (N:=none) #[T_,T_,T_,T_,T_,T_,T_,F_,F_] rfl rfl (one_of HT_.out (by kernel_rfl)) (by decide) (fun K hK=>?_)
 have hs16:w15.cell? ⟨gb216,0,none⟩=some (.int .i64 a0_0):=(blk_cell BK216.out 0).trans rfl;have hfs16:=blk_frozen BK216.out 0;have hns16_1:=NB217_216.out;have hns16_2:=NB218_216.out;have hms16_1:=NB216_217.out;have hms16_2:=NB216_218.out;have hs17:w15.cell? ⟨gb216,1,none⟩=some (.int .i64 a0_1):=(blk_cell BK216.out 1).trans rfl;have hfs17:=blk_frozen BK216.out 1;have hns17_1:=NB217_216.out;have hns17_2:=NB218_216.out;have hms17_1:=NB216_217.out;have hms17_2:=NB216_218.out;have hs18:w15.cell? ⟨gb216,2,none⟩=some (.int .i64 a0_2):=(blk_cell BK216.out 2).trans rfl;have hfs18:=blk_frozen BK216.out 2;have hns18_1:=NB217_216.out;have hns18_2:=NB218_216.out;have hms18_1:=NB216_217.out;have hms18_2:=NB216_218.out;have hs19:w15.cell? ⟨gb216,3,none⟩=some (.int .i64 a0_3):=(blk_cell BK216.out 3).trans rfl;have hfs19:=blk_frozen BK216.out 3;have hns19_1:=NB217_216.out;have hns19_2:=NB218_216.out;have hms19_1:=NB216_217.out;have hms19_2:=NB216_218.out
 refine skip_ (w1:=?_) (by rfl) rfl ?_ ?_
 rotate_left
 ·go_simp
  rfl
 refine hK.out _ _ ?_;clear hK K
 refine last_ (i:=7) (N:=none) #[T_,T_,T_,T_,T_,T_,T_,T_,F_] rfl rfl (one_of HT_.out (by kernel_rfl)) (by decide) (fun K hK=>?_)
 have hs20:w15.cell? ⟨gb217,0,none⟩=some (.int .i64 a1_0):=(blk_cell BK217.out 0).trans rfl;have hfs20:=blk_frozen BK217.out 0;have hns20_0:=NB216_217.out;have hns20_2:=NB218_217.out;have hms20_0:=NB217_216.out;have hms20_2:=NB217_218.out;have hs21:w15.cell? ⟨gb217,1,none⟩=some (.int .i64 a1_1):=(blk_cell BK217.out 1).trans rfl;have hfs21:=blk_frozen BK217.out 1;have hns21_0:=NB216_217.out;have hns21_2:=NB218_217.out;have hms21_0:=NB217_216.out;have hms21_2:=NB217_218.out;have hs22:w15.cell? ⟨gb217,2,none⟩=some (.int .i64 a1_2):=(blk_cell BK217.out 2).trans rfl;have hfs22:=blk_frozen BK217.out 2;have hns22_0:=NB216_217.out;have hns22_2:=NB218_217.out;have hms22_0:=NB217_216.out;have hms22_2:=NB217_218.out;have hs23:w15.cell? ⟨gb217,3,none⟩=some (.int .i64 a1_3):=(blk_cell BK217.out 3).trans rfl;have hfs23:=blk_frozen BK217.out 3;have hns23_0:=NB216_217.out;have hns23_2:=NB218_217.out;have hms23_0:=NB217_216.out;have hms23_2:=NB217_218.out
 refine skip_ (w1:=?_) (by rfl) rfl ?_ ?_
 rotate_left
 ·go_simp
  rfl
 refine hK.out _ _ ?_;clear hK K
 refine pure_ (i:=8) (N:=some 2) (v:=?_) (a':=?_) #[T_,T_,T_,T_,T_,T_,T_,T_,T_] rfl rfl (any_of HT_.out (by kernel_rfl)) (fun _ _ _ h=>h) (Or.inl ⟨by rfl,?_⟩) ?_ ?_
 rotate_left
 ·intro w'
  go_simp
  with_reducible rfl
 rotate_left
 ·simp only [Act.put,tS_,tZ_,tC_,i64_w,i32_w]
  rfl
 refine done_ (done_of HT_.out (by kernel_rfl)) ?_
 try go_wp2
 have n0_:Aside0 (((((((((w15.setCell ⟨gb216,0,none⟩ (.int .i64 t219)).setCell ⟨gb216,1,none⟩ (.int .i64 t220)).setCell ⟨gb216,2,none⟩ (.int .i64 t221)).setCell ⟨gb216,3,none⟩ (.int .i64 t222)).setCell ⟨gb217,0,none⟩ (.int .i64 t223)).setCell ⟨gb217,1,none⟩ (.int .i64 t224)).setCell ⟨gb217,2,none⟩ (.int .i64 t225)).setCell ⟨gb217,3,none⟩ (.int .i64 t226)).heap[gb216]? = some (.cells #[.int .i64 t219,.int .i64 t220,.int .i64 t221,.int .i64 t222] 38 (0,0))):=⟨by (with_reducible repeat first|apply bN_|apply bD_|apply bA_);refine blk_far ?_ NB216_217.out _;(with_reducible repeat first|apply bN_|apply bD_|apply bA_);refine blk_far ?_ NB216_217.out _;(with_reducible repeat first|apply bN_|apply bD_|apply bA_);refine blk_far ?_ NB216_217.out _;(with_reducible repeat first|apply bN_|apply bD_|apply bA_);refine blk_far ?_ NB216_217.out _;(with_reducible repeat first|apply bN_|apply bD_|apply bA_);refine blk_put (cs:=#[.int .i64 t219,.int .i64 t220,.int .i64 t221,.int .i64 a0_3]) ?_ 3 _ rfl;(with_reducible repeat first|apply bN_|apply bD_|apply bA_);refine blk_put (cs:=#[.int .i64 t219,.int .i64 t220,.int .i64 a0_2,.int .i64 a0_3]) ?_ 2 _ rfl;(with_reducible repeat first|apply bN_|apply bD_|apply bA_);refine blk_put (cs:=#[.int .i64 t219,.int .i64 a0_1,.int .i64 a0_2,.int .i64 a0_3]) ?_ 1 _ rfl;(with_reducible repeat first|apply bN_|apply bD_|apply bA_);refine blk_put (cs:=#[.int .i64 a0_0,.int .i64 a0_1,.int .i64 a0_2,.int .i64 a0_3]) ?_ 0 _ rfl;(with_reducible repeat first|apply bN_|apply bD_|apply bA_);exact BK216.out⟩
 have n1_:Aside0 (((((((((w15.setCell ⟨gb216,0,none⟩ (.int .i64 t219)).setCell ⟨gb216,1,none⟩ (.int .i64 t220)).setCell ⟨gb216,2,none⟩ (.int .i64 t221)).setCell ⟨gb216,3,none⟩ (.int .i64 t222)).setCell ⟨gb217,0,none⟩ (.int .i64 t223)).setCell ⟨gb217,1,none⟩ (.int .i64 t224)).setCell ⟨gb217,2,none⟩ (.int .i64 t225)).setCell ⟨gb217,3,none⟩ (.int .i64 t226)).heap[gb217]? = some (.cells #[.int .i64 t223,.int .i64 t224,.int .i64 t225,.int .i64 t226] 38 (0,0))):=⟨by (with_reducible repeat first|apply bN_|apply bD_|apply bA_);refine blk_put (cs:=#[.int .i64 t223,.int .i64 t224,.int .i64 t225,.int .i64 a1_3]) ?_ 3 _ rfl;(with_reducible repeat first|apply bN_|apply bD_|apply bA_);refine blk_put (cs:=#[.int .i64 t223,.int .i64 t224,.int .i64 a1_2,.int .i64 a1_3]) ?_ 2 _ rfl;(with_reducible repeat first|apply bN_|apply bD_|apply bA_);refine blk_put (cs:=#[.int .i64 t223,.int .i64 a1_1,.int .i64 a1_2,.int .i64 a1_3]) ?_ 1 _ rfl;(with_reducible repeat first|apply bN_|apply bD_|apply bA_);refine blk_put (cs:=#[.int .i64 a1_0,.int .i64 a1_1,.int .i64 a1_2,.int .i64 a1_3]) ?_ 0 _ rfl;(with_reducible repeat first|apply bN_|apply bD_|apply bA_);refine blk_far ?_ NB217_216.out _;(with_reducible repeat first|apply bN_|apply bD_|apply bA_);refine blk_far ?_ NB217_216.out _;(with_reducible repeat first|apply bN_|apply bD_|apply bA_);refine blk_far ?_ NB217_216.out _;(with_reducible repeat first|apply bN_|apply bD_|apply bA_);refine blk_far ?_ NB217_216.out _;(with_reducible repeat first|apply bN_|apply bD_|apply bA_);exact BK217.out⟩
 have n2_:Aside0 (((((((((w15.setCell ⟨gb216,0,none⟩ (.int .i64 t219)).setCell ⟨gb216,1,none⟩ (.int .i64 t220)).setCell ⟨gb216,2,none⟩ (.int .i64 t221)).setCell ⟨gb216,3,none⟩ (.int .i64 t222)).setCell ⟨gb217,0,none⟩ (.int .i64 t223)).setCell ⟨gb217,1,none⟩ (.int .i64 t224)).setCell ⟨gb217,2,none⟩ (.int .i64 t225)).setCell ⟨gb217,3,none⟩ (.int .i64 t226)).heap[gb218]? = some (.cells #[.int .i64 0,.int .i64 0,.int .i64 0,.int .i64 0] 38 (0,0))):=⟨by (with_reducible repeat first|apply bN_|apply bD_|apply bA_);refine blk_far ?_ NB218_217.out _;(with_reducible repeat first|apply bN_|apply bD_|apply bA_);refine blk_far ?_ NB218_217.out _;(with_reducible repeat first|apply bN_|apply bD_|apply bA_);refine blk_far ?_ NB218_217.out _;(with_reducible repeat first|apply bN_|apply bD_|apply bA_);refine blk_far ?_ NB218_217.out _;(with_reducible repeat first|apply bN_|apply bD_|apply bA_);refine blk_far ?_ NB218_216.out _;(with_reducible repeat first|apply bN_|apply bD_|apply bA_);refine blk_far ?_ NB218_216.out _;(with_reducible repeat first|apply bN_|apply bD_|apply bA_);refine blk_far ?_ NB218_216.out _;(with_reducible repeat first|apply bN_|apply bD_|apply bA_);refine blk_far ?_ NB218_216.out _;(with_reducible repeat first|apply bN_|apply bD_|apply bA_);exact BK218.out⟩
 have n3_:Aside0 (Below w.heap.size w ((((((((w15.setCell ⟨gb216,0,none⟩ (.int .i64 t219)).setCell ⟨gb216,1,none⟩ (.int .i64 t220)).setCell ⟨gb216,2,none⟩ (.int .i64 t221)).setCell ⟨gb216,3,none⟩ (.int .i64 t222)).setCell ⟨gb217,0,none⟩ (.int .i64 t223)).setCell ⟨gb217,1,none⟩ (.int .i64 t224)).setCell ⟨gb217,2,none⟩ (.int .i64 t225)).setCell ⟨gb217,3,none⟩ (.int .i64 t226))):=⟨by repeat first|(with_reducible first|exact HB.out|apply lA_|apply lN_|apply lD_|refine lS_ ?_ GE216.out|refine lS_ ?_ GE217.out|refine lS_ ?_ GE218.out)|exact HB.out⟩
 (try clear BK216)
 (try clear BK217)
 (try clear BK218)
 (try clear HB)
 generalize ((((((((w15.setCell ⟨gb216,0,none⟩ (.int .i64 t219)).setCell ⟨gb216,1,none⟩ (.int .i64 t220)).setCell ⟨gb216,2,none⟩ (.int .i64 t221)).setCell ⟨gb216,3,none⟩ (.int .i64 t222)).setCell ⟨gb217,0,none⟩ (.int .i64 t223)).setCell ⟨gb217,1,none⟩ (.int .i64 t224)).setCell ⟨gb217,2,none⟩ (.int .i64 t225)).setCell ⟨gb217,3,none⟩ (.int .i64 t226))=w24 at n0_ n1_ n2_ n3_ ⊢
 have BK216:=n0_;have BK217:=n1_;have BK218:=n2_;have HB:=n3_;clear n0_ n1_ n2_ n3_;have n0_:=Aside0.mk (blk_drew BK216.out);have n1_:=Aside0.mk (blk_drew BK217.out);have n2_:=Aside0.mk (blk_drew BK218.out);have n3_:=Aside0.mk (lD_ HB.out);clear BK216 BK217 BK218 HB;have BK216:=n0_;have BK217:=n1_;have BK218:=n2_;have HB:=n3_;clear n0_ n1_ n2_ n3_
 refine start_ (n:=13) (S:=fun w'=>w'.cell? ⟨gb216,0,none⟩=some (.int .i64 t219)∧w'.cell? ⟨gb216,1,none⟩=some (.int .i64 t220)∧w'.cell? ⟨gb216,2,none⟩=some (.int .i64 t221)∧w'.cell? ⟨gb216,3,none⟩=some (.int .i64 t222)∧w'.cell? ⟨gb217,0,none⟩=some (.int .i64 t223)∧w'.cell? ⟨gb217,1,none⟩=some (.int .i64 t224)∧w'.cell? ⟨gb217,2,none⟩=some (.int .i64 t225)∧w'.cell? ⟨gb217,3,none⟩=some (.int .i64 t226)) (ds:=[]) #[F_,F_,F_,F_,F_,F_,F_,F_,F_,F_,F_,F_,F_] (by kernel_rfl) rfl rfl ⟨(blk_cell BK216.out 0).trans rfl,(blk_cell BK216.out 1).trans rfl,(blk_cell BK216.out 2).trans rfl,(blk_cell BK216.out 3).trans rfl,(blk_cell BK217.out 0).trans rfl,(blk_cell BK217.out 1).trans rfl,(blk_cell BK217.out 2).trans rfl,(blk_cell BK217.out 3).trans rfl⟩ (fun hHeld=>?_);refine with_tabW pixel_Mix.tab2 pixel_Mix.bits2 (fun HT_ HW_=>?_)
 generalize w24.drew=w25 at BK216 BK217 BK218 HB hHeld ⊢
 refine pure_ (i:=0) (N:=some 18) (v:=?_) (a':=?_) #[T_,F_,F_,F_,F_,F_,F_,F_,F_,F_,F_,F_,F_] rfl rfl (any_of HT_.out (by kernel_rfl)) (fun _ _ _ h=>h) (Or.inl ⟨by rfl,?_⟩) ?_ ?_
 rotate_left
 ·intro w'
  go_simp
  with_reducible rfl
 rotate_left
 ·simp only [Act.put,tS_,tZ_,tC_,i64_w,i32_w]
  rfl
 refine pure_ (i:=2) (N:=some 20) (v:=?_) (a':=?_) #[T_,F_,T_,F_,F_,F_,F_,F_,F_,F_,F_,F_,F_] rfl rfl (any_of HT_.out (by kernel_rfl)) (fun _ _ _ h=>h) (Or.inl ⟨by rfl,?_⟩) ?_ ?_
 rotate_left
 ·intro w'
  go_simp
  with_reducible rfl
 rotate_left
 ·simp only [Act.put,tS_,tZ_,tC_,i64_w,i32_w]
  rfl
 refine pure_ (i:=3) (N:=some 21) (v:=?_) (a':=?_) #[T_,F_,T_,T_,F_,F_,F_,F_,F_,F_,F_,F_,F_] rfl rfl (any_of HT_.out (by kernel_rfl)) (fun _ _ _ h=>h) (Or.inl ⟨by rfl,?_⟩) ?_ ?_
 rotate_left
 ·intro w'
  go_simp
  with_reducible rfl
 rotate_left
 ·simp only [Act.put,tS_,tZ_,tC_,i64_w,i32_w]
  rfl
 refine pure_ (i:=5) (N:=some 23) (v:=?_) (a':=?_) #[T_,F_,T_,T_,F_,T_,F_,F_,F_,F_,F_,F_,F_] rfl rfl (any_of HT_.out (by kernel_rfl)) (fun _ _ _ h=>h) (Or.inl ⟨by rfl,?_⟩) ?_ ?_
 rotate_left
 ·intro w'
  go_simp
  with_reducible rfl
 rotate_left
 ·simp only [Act.put,tS_,tZ_,tC_,i64_w,i32_w]
  rfl
 refine pure_ (i:=7) (N:=some 25) (v:=?_) (a':=?_) #[T_,F_,T_,T_,F_,T_,F_,T_,F_,F_,F_,F_,F_] rfl rfl (any_of HT_.out (by kernel_rfl)) (fun _ _ _ h=>h) (Or.inl ⟨by rfl,?_⟩) ?_ ?_
 rotate_left
 ·intro w'
  go_simp
  with_reducible rfl
 rotate_left
 ·simp only [Act.put,tS_,tZ_,tC_,i64_w,i32_w]
  rfl
 refine take_ (i:=1) (N:=some 19) (v:=?_) (a':=?_) #[T_,T_,T_,T_,F_,T_,F_,T_,F_,F_,F_,F_,F_] rfl rfl (take_ofW HT_.out HW_.out (by kernel_rfl)) (fun _ _ _ h=>h) (Or.inl ⟨by rfl,?_⟩) hHeld ?_ ?_
 rotate_left
 ·rintro w' ⟨s0,s1,s2,s3,s4,s5,s6,s7⟩
  go_simp
  with_reducible rfl
 rotate_left
 ·simp only [Act.put,tS_,tZ_,tC_,i64_w,i32_w]
  rfl
 refine pure_ (i:=4) (N:=some 22) (v:=?_) (a':=?_) #[T_,T_,T_,T_,T_,T_,F_,T_,F_,F_,F_,F_,F_] rfl rfl (any_of HT_.out (by kernel_rfl)) (fun _ _ _ h=>h) (Or.inl ⟨by rfl,?_⟩) ?_ ?_
 rotate_left
 ·intro w'
  go_simp
  with_reducible rfl
 rotate_left
 ·simp only [Act.put,tS_,tZ_,tC_,i64_w,i32_w]
  rfl
 refine take_ (i:=6) (N:=some 24) (v:=?_) (a':=?_) #[T_,T_,T_,T_,T_,T_,T_,T_,F_,F_,F_,F_,F_] rfl rfl (take_ofW HT_.out HW_.out (by kernel_rfl)) (fun _ _ _ h=>h) (Or.inl ⟨by rfl,?_⟩) hHeld ?_ ?_
 rotate_left
 ·rintro w' ⟨s0,s1,s2,s3,s4,s5,s6,s7⟩
  go_simp
  with_reducible rfl
 rotate_left
 ·simp only [Act.put,tS_,tZ_,tC_,i64_w,i32_w]
  rfl
 refine pure_ (i:=8) (N:=some 26) (v:=?_) (a':=?_) #[T_,T_,T_,T_,T_,T_,T_,T_,T_,F_,F_,F_,F_] rfl rfl (any_of HT_.out (by kernel_rfl)) (fun _ _ _ h=>h) (Or.inl ⟨by rfl,?_⟩) ?_ ?_
 rotate_left
 ·intro w'
  go_simp
  with_reducible rfl
 rotate_left
 ·simp only [Act.put,tS_,tZ_,tC_,i64_w,i32_w]
  rfl
 refine join_ (σ:=Nat × Nat) 2 #[T_,T_,T_,T_,T_,T_,T_,T_,T_,T_,T_,F_,F_] (fun s_=>[(7,.pointer (some ⟨s_.1,0,none⟩)),(8,.pointer (some ⟨s_.2,0,none⟩))]) (fun s_ w'=>(w'.cell? ⟨gb216,0,none⟩=some (.int .i64 t219)∧w'.cell? ⟨gb216,1,none⟩=some (.int .i64 t220)∧w'.cell? ⟨gb216,2,none⟩=some (.int .i64 t221)∧w'.cell? ⟨gb216,3,none⟩=some (.int .i64 t222)∧w'.cell? ⟨gb217,0,none⟩=some (.int .i64 t223)∧w'.cell? ⟨gb217,1,none⟩=some (.int .i64 t224)∧w'.cell? ⟨gb217,2,none⟩=some (.int .i64 t225)∧w'.cell? ⟨gb217,3,none⟩=some (.int .i64 t226))∧(w'.heap[gb216]? = some (.cells #[.int .i64 t219,.int .i64 t220,.int .i64 t221,.int .i64 t222] 38 (0,0)))∧(w'.heap[gb217]? = some (.cells #[.int .i64 t223,.int .i64 t224,.int .i64 t225,.int .i64 t226] 38 (0,0)))∧(w'.heap[gb218]? = some (.cells #[.int .i64 0,.int .i64 0,.int .i64 0,.int .i64 0] 38 (0,0)))∧(w'.heap[s_.1]? = some (.cells #[.int .i64 0] 3 (0,0)))∧(w'.heap[s_.2]? = some (.cells #[.int .i64 0] 3 (0,0)))∧(w.heap.size≤s_.1)∧(w.heap.size≤s_.1)∧(gb216 ≠ s_.1)∧(s_.1 ≠ gb216)∧(gb217 ≠ s_.1)∧(s_.1 ≠ gb217)∧(gb218 ≠ s_.1)∧(s_.1 ≠ gb218)∧(s_.2 ≠ s_.1)∧(s_.1 ≠ s_.2)∧(w.heap.size≤s_.2)∧(w.heap.size≤s_.2)∧(gb216 ≠ s_.2)∧(s_.2 ≠ gb216)∧(gb217 ≠ s_.2)∧(s_.2 ≠ gb217)∧(gb218 ≠ s_.2)∧(s_.2 ≠ gb218)∧(Below w.heap.size w w')) ?_ ?_
 rotate_left
 ·intro hCont
  refine two_ (i:=9) (j:=10) (Ni:=some 7) (Nj:=some 8) #[T_,T_,T_,T_,T_,T_,T_,T_,T_,T_,F_,F_,F_] #[T_,T_,T_,T_,T_,T_,T_,T_,T_,F_,T_,F_,F_] rfl rfl rfl rfl (two_of HT_.out (by kernel_rfl)) (by decide) (by decide) (fun K hK=>?_) (fun K hK=>?_)
  ·skip
   refine box_step ?hg (N:=7) ?hd (cs:=#[.int .i64 0]) (t:=3) ?hr ?_;(case hd=>rfl);(case hg=>rfl);(case hr=>first|(go_simp;done)|(go_simp;rfl))
   intro gb228 hg w26 hbox hb
   have n0_:=Aside0.mk (blk_below (by (with_reducible repeat first|apply bN_|apply bD_|apply bA_);exact BK216.out) hb)
   have n1_:=Aside0.mk (blk_below (by (with_reducible repeat first|apply bN_|apply bD_|apply bA_);exact BK217.out) hb)
   have n2_:=Aside0.mk (blk_below (by (with_reducible repeat first|apply bN_|apply bD_|apply bA_);exact BK218.out) hb)
   have n3_:=Aside0.mk (below_step (by repeat first|(with_reducible first|exact HB.out|apply lA_|apply lN_|apply lD_|refine lS_ ?_ GE216.out|refine lS_ ?_ GE217.out|refine lS_ ?_ GE218.out)|exact HB.out) hb)
   have n4_:=Aside0.mk (hbox)
   have n5_:=Aside0.mk ((by rw [hg];exact (below_size (by repeat first|(with_reducible first|exact HB.out|apply lA_|apply lN_|apply lD_|refine lS_ ?_ GE216.out|refine lS_ ?_ GE217.out|refine lS_ ?_ GE218.out)|exact HB.out)):w.heap.size≤gb228))
   have n6_:=Aside0.mk ((by rw [hg];exact (below_size (by repeat first|(with_reducible first|exact HB.out|apply lA_|apply lN_|apply lD_|refine lS_ ?_ GE216.out|refine lS_ ?_ GE217.out|refine lS_ ?_ GE218.out)|exact HB.out)):w.heap.size≤gb228))
   have n7_:=Aside0.mk ((by rw [hg];exact Nat.ne_of_lt (blk_lt (g:=gb216) (o:=.cells #[.int .i64 t219,.int .i64 t220,.int .i64 t221,.int .i64 t222] 38 (0,0)) (by (with_reducible repeat first|apply bN_|apply bD_|apply bA_);exact BK216.out)):gb216 ≠ gb228))
   have n8_:=Aside0.mk ((by rw [hg];exact Nat.ne_of_gt (blk_lt (g:=gb216) (o:=.cells #[.int .i64 t219,.int .i64 t220,.int .i64 t221,.int .i64 t222] 38 (0,0)) (by (with_reducible repeat first|apply bN_|apply bD_|apply bA_);exact BK216.out)):gb228 ≠ gb216))
   have n9_:=Aside0.mk ((by rw [hg];exact Nat.ne_of_lt (blk_lt (g:=gb217) (o:=.cells #[.int .i64 t223,.int .i64 t224,.int .i64 t225,.int .i64 t226] 38 (0,0)) (by (with_reducible repeat first|apply bN_|apply bD_|apply bA_);exact BK217.out)):gb217 ≠ gb228))
   have n10_:=Aside0.mk ((by rw [hg];exact Nat.ne_of_gt (blk_lt (g:=gb217) (o:=.cells #[.int .i64 t223,.int .i64 t224,.int .i64 t225,.int .i64 t226] 38 (0,0)) (by (with_reducible repeat first|apply bN_|apply bD_|apply bA_);exact BK217.out)):gb228 ≠ gb217))
   have n11_:=Aside0.mk ((by rw [hg];exact Nat.ne_of_lt (blk_lt (g:=gb218) (o:=.cells #[.int .i64 0,.int .i64 0,.int .i64 0,.int .i64 0] 38 (0,0)) (by (with_reducible repeat first|apply bN_|apply bD_|apply bA_);exact BK218.out)):gb218 ≠ gb228))
   have n12_:=Aside0.mk ((by rw [hg];exact Nat.ne_of_gt (blk_lt (g:=gb218) (o:=.cells #[.int .i64 0,.int .i64 0,.int .i64 0,.int .i64 0] 38 (0,0)) (by (with_reducible repeat first|apply bN_|apply bD_|apply bA_);exact BK218.out)):gb228 ≠ gb218))
   clear BK216 BK217 BK218 HB;have BK216:=n0_;have BK217:=n1_;have BK218:=n2_;have HB:=n3_;have BK228:=n4_;have GW228:=n5_;have GE228:=n6_;have NB216_228:=n7_;have NB228_216:=n8_;have NB217_228:=n9_;have NB228_217:=n10_;have NB218_228:=n11_;have NB228_218:=n12_;clear n0_ n1_ n2_ n3_ n4_ n5_ n6_ n7_ n8_ n9_ n10_ n11_ n12_ hb hbox hg
   refine hK.out _ _ ⟨(blk_cell BK216.out 0).trans rfl,(blk_cell BK216.out 1).trans rfl,(blk_cell BK216.out 2).trans rfl,(blk_cell BK216.out 3).trans rfl,(blk_cell BK217.out 0).trans rfl,(blk_cell BK217.out 1).trans rfl,(blk_cell BK217.out 2).trans rfl,(blk_cell BK217.out 3).trans rfl⟩ (fun hHeld=>?_)
   clear hK K;refine norm_ (a':=?_) ?_ ?_;rotate_left
   ·show Act.put _ (some 7) _=_
    simp only [Act.put,tS_,tZ_,tC_,i64_w,i32_w];rfl
   refine one_ (i:=10) (N:=some 8) #[T_,T_,T_,T_,T_,T_,T_,T_,T_,T_,T_,F_,F_] rfl rfl (one_of HT_.out (by kernel_rfl)) (by decide) (fun K hK=>?_)
   refine box_step ?hg (N:=8) ?hd (cs:=#[.int .i64 0]) (t:=3) ?hr ?_;(case hd=>rfl);(case hg=>rfl);(case hr=>first|(go_simp;done)|(go_simp;rfl))
   intro gb229 hg w27 hbox hb
   have n0_:=Aside0.mk (blk_below (by (with_reducible repeat first|apply bN_|apply bD_|apply bA_);exact BK216.out) hb)
   have n1_:=Aside0.mk (blk_below (by (with_reducible repeat first|apply bN_|apply bD_|apply bA_);exact BK217.out) hb)
   have n2_:=Aside0.mk (blk_below (by (with_reducible repeat first|apply bN_|apply bD_|apply bA_);exact BK218.out) hb)
   have n3_:=Aside0.mk (blk_below (by (with_reducible repeat first|apply bN_|apply bD_|apply bA_);exact BK228.out) hb)
   have n4_:=Aside0.mk (below_step (by repeat first|(with_reducible first|exact HB.out|apply lA_|apply lN_|apply lD_|refine lS_ ?_ GE216.out|refine lS_ ?_ GE217.out|refine lS_ ?_ GE218.out|refine lS_ ?_ GE228.out)|exact HB.out) hb)
   have n5_:=Aside0.mk (hbox)
   have n6_:=Aside0.mk ((by rw [hg];exact (below_size (by repeat first|(with_reducible first|exact HB.out|apply lA_|apply lN_|apply lD_|refine lS_ ?_ GE216.out|refine lS_ ?_ GE217.out|refine lS_ ?_ GE218.out|refine lS_ ?_ GE228.out)|exact HB.out)):w.heap.size≤gb229))
   have n7_:=Aside0.mk ((by rw [hg];exact (below_size (by repeat first|(with_reducible first|exact HB.out|apply lA_|apply lN_|apply lD_|refine lS_ ?_ GE216.out|refine lS_ ?_ GE217.out|refine lS_ ?_ GE218.out|refine lS_ ?_ GE228.out)|exact HB.out)):w.heap.size≤gb229))
   have n8_:=Aside0.mk ((by rw [hg];exact Nat.ne_of_lt (blk_lt (g:=gb216) (o:=.cells #[.int .i64 t219,.int .i64 t220,.int .i64 t221,.int .i64 t222] 38 (0,0)) (by (with_reducible repeat first|apply bN_|apply bD_|apply bA_);exact BK216.out)):gb216 ≠ gb229))
   have n9_:=Aside0.mk ((by rw [hg];exact Nat.ne_of_gt (blk_lt (g:=gb216) (o:=.cells #[.int .i64 t219,.int .i64 t220,.int .i64 t221,.int .i64 t222] 38 (0,0)) (by (with_reducible repeat first|apply bN_|apply bD_|apply bA_);exact BK216.out)):gb229 ≠ gb216))
   have n10_:=Aside0.mk ((by rw [hg];exact Nat.ne_of_lt (blk_lt (g:=gb217) (o:=.cells #[.int .i64 t223,.int .i64 t224,.int .i64 t225,.int .i64 t226] 38 (0,0)) (by (with_reducible repeat first|apply bN_|apply bD_|apply bA_);exact BK217.out)):gb217 ≠ gb229))
   have n11_:=Aside0.mk ((by rw [hg];exact Nat.ne_of_gt (blk_lt (g:=gb217) (o:=.cells #[.int .i64 t223,.int .i64 t224,.int .i64 t225,.int .i64 t226] 38 (0,0)) (by (with_reducible repeat first|apply bN_|apply bD_|apply bA_);exact BK217.out)):gb229 ≠ gb217))
   have n12_:=Aside0.mk ((by rw [hg];exact Nat.ne_of_lt (blk_lt (g:=gb218) (o:=.cells #[.int .i64 0,.int .i64 0,.int .i64 0,.int .i64 0] 38 (0,0)) (by (with_reducible repeat first|apply bN_|apply bD_|apply bA_);exact BK218.out)):gb218 ≠ gb229))
   have n13_:=Aside0.mk ((by rw [hg];exact Nat.ne_of_gt (blk_lt (g:=gb218) (o:=.cells #[.int .i64 0,.int .i64 0,.int .i64 0,.int .i64 0] 38 (0,0)) (by (with_reducible repeat first|apply bN_|apply bD_|apply bA_);exact BK218.out)):gb229 ≠ gb218))
   have n14_:=Aside0.mk ((by rw [hg];exact Nat.ne_of_lt (blk_lt (g:=gb228) (o:=.cells #[.int .i64 0] 3 (0,0)) (by (with_reducible repeat first|apply bN_|apply bD_|apply bA_);exact BK228.out)):gb228 ≠ gb229))
   have n15_:=Aside0.mk ((by rw [hg];exact Nat.ne_of_gt (blk_lt (g:=gb228) (o:=.cells #[.int .i64 0] 3 (0,0)) (by (with_reducible repeat first|apply bN_|apply bD_|apply bA_);exact BK228.out)):gb229 ≠ gb228))
   clear BK216 BK217 BK218 BK228 HB;have BK216:=n0_;have BK217:=n1_;have BK218:=n2_;have BK228:=n3_;have HB:=n4_;have BK229:=n5_;have GW229:=n6_;have GE229:=n7_;have NB216_229:=n8_;have NB229_216:=n9_;have NB217_229:=n10_;have NB229_217:=n11_;have NB218_229:=n12_;have NB229_218:=n13_;have NB228_229:=n14_;have NB229_228:=n15_;clear n0_ n1_ n2_ n3_ n4_ n5_ n6_ n7_ n8_ n9_ n10_ n11_ n12_ n13_ n14_ n15_ hb hbox hg
   refine hK.out _ _ ⟨(blk_cell BK216.out 0).trans rfl,(blk_cell BK216.out 1).trans rfl,(blk_cell BK216.out 2).trans rfl,(blk_cell BK216.out 3).trans rfl,(blk_cell BK217.out 0).trans rfl,(blk_cell BK217.out 1).trans rfl,(blk_cell BK217.out 2).trans rfl,(blk_cell BK217.out 3).trans rfl⟩ (fun hHeld=>?_)
   clear hK K;refine norm_ (a':=?_) ?_ ?_;rotate_left
   ·show Act.put _ (some 8) _=_
    simp only [Act.put,tS_,tZ_,tC_,i64_w,i32_w];rfl
   exact norm_ (by simp only [putAll,Act.put,tS_,tZ_,tC_]) (hCont (gb228,gb229) _ ⟨hHeld,(by (with_reducible repeat first|apply bN_|apply bD_|apply bA_);exact BK216.out),(by (with_reducible repeat first|apply bN_|apply bD_|apply bA_);exact BK217.out),(by (with_reducible repeat first|apply bN_|apply bD_|apply bA_);exact BK218.out),(by (with_reducible repeat first|apply bN_|apply bD_|apply bA_);exact BK228.out),(by (with_reducible repeat first|apply bN_|apply bD_|apply bA_);exact BK229.out),GW228.out,GE228.out,NB216_228.out,NB228_216.out,NB217_228.out,NB228_217.out,NB218_228.out,NB228_218.out,NB229_228.out,NB228_229.out,GW229.out,GE229.out,NB216_229.out,NB229_216.out,NB217_229.out,NB229_217.out,NB218_229.out,NB229_218.out,(by repeat first|(with_reducible first|exact HB.out|apply lA_|apply lN_|apply lD_|refine lS_ ?_ GE216.out|refine lS_ ?_ GE217.out|refine lS_ ?_ GE218.out|refine lS_ ?_ GE228.out|refine lS_ ?_ GE229.out)|exact HB.out)⟩)
  skip
  refine box_step ?hg (N:=8) ?hd (cs:=#[.int .i64 0]) (t:=3) ?hr ?_;(case hd=>rfl);(case hg=>rfl);(case hr=>first|(go_simp;done)|(go_simp;rfl))
  intro gb229 hg w26 hbox hb
  have n0_:=Aside0.mk (blk_below (by (with_reducible repeat first|apply bN_|apply bD_|apply bA_);exact BK216.out) hb)
  have n1_:=Aside0.mk (blk_below (by (with_reducible repeat first|apply bN_|apply bD_|apply bA_);exact BK217.out) hb)
  have n2_:=Aside0.mk (blk_below (by (with_reducible repeat first|apply bN_|apply bD_|apply bA_);exact BK218.out) hb)
  have n3_:=Aside0.mk (below_step (by repeat first|(with_reducible first|exact HB.out|apply lA_|apply lN_|apply lD_|refine lS_ ?_ GE216.out|refine lS_ ?_ GE217.out|refine lS_ ?_ GE218.out)|exact HB.out) hb)
  have n4_:=Aside0.mk (hbox)
  have n5_:=Aside0.mk ((by rw [hg];exact (below_size (by repeat first|(with_reducible first|exact HB.out|apply lA_|apply lN_|apply lD_|refine lS_ ?_ GE216.out|refine lS_ ?_ GE217.out|refine lS_ ?_ GE218.out)|exact HB.out)):w.heap.size≤gb229))
  have n6_:=Aside0.mk ((by rw [hg];exact (below_size (by repeat first|(with_reducible first|exact HB.out|apply lA_|apply lN_|apply lD_|refine lS_ ?_ GE216.out|refine lS_ ?_ GE217.out|refine lS_ ?_ GE218.out)|exact HB.out)):w.heap.size≤gb229))
  have n7_:=Aside0.mk ((by rw [hg];exact Nat.ne_of_lt (blk_lt (g:=gb216) (o:=.cells #[.int .i64 t219,.int .i64 t220,.int .i64 t221,.int .i64 t222] 38 (0,0)) (by (with_reducible repeat first|apply bN_|apply bD_|apply bA_);exact BK216.out)):gb216 ≠ gb229))
  have n8_:=Aside0.mk ((by rw [hg];exact Nat.ne_of_gt (blk_lt (g:=gb216) (o:=.cells #[.int .i64 t219,.int .i64 t220,.int .i64 t221,.int .i64 t222] 38 (0,0)) (by (with_reducible repeat first|apply bN_|apply bD_|apply bA_);exact BK216.out)):gb229 ≠ gb216))
  have n9_:=Aside0.mk ((by rw [hg];exact Nat.ne_of_lt (blk_lt (g:=gb217) (o:=.cells #[.int .i64 t223,.int .i64 t224,.int .i64 t225,.int .i64 t226] 38 (0,0)) (by (with_reducible repeat first|apply bN_|apply bD_|apply bA_);exact BK217.out)):gb217 ≠ gb229))
  have n10_:=Aside0.mk ((by rw [hg];exact Nat.ne_of_gt (blk_lt (g:=gb217) (o:=.cells #[.int .i64 t223,.int .i64 t224,.int .i64 t225,.int .i64 t226] 38 (0,0)) (by (with_reducible repeat first|apply bN_|apply bD_|apply bA_);exact BK217.out)):gb229 ≠ gb217))
  have n11_:=Aside0.mk ((by rw [hg];exact Nat.ne_of_lt (blk_lt (g:=gb218) (o:=.cells #[.int .i64 0,.int .i64 0,.int .i64 0,.int .i64 0] 38 (0,0)) (by (with_reducible repeat first|apply bN_|apply bD_|apply bA_);exact BK218.out)):gb218 ≠ gb229))
  have n12_:=Aside0.mk ((by rw [hg];exact Nat.ne_of_gt (blk_lt (g:=gb218) (o:=.cells #[.int .i64 0,.int .i64 0,.int .i64 0,.int .i64 0] 38 (0,0)) (by (with_reducible repeat first|apply bN_|apply bD_|apply bA_);exact BK218.out)):gb229 ≠ gb218))
  clear BK216 BK217 BK218 HB;have BK216:=n0_;have BK217:=n1_;have BK218:=n2_;have HB:=n3_;have BK229:=n4_;have GW229:=n5_;have GE229:=n6_;have NB216_229:=n7_;have NB229_216:=n8_;have NB217_229:=n9_;have NB229_217:=n10_;have NB218_229:=n11_;have NB229_218:=n12_;clear n0_ n1_ n2_ n3_ n4_ n5_ n6_ n7_ n8_ n9_ n10_ n11_ n12_ hb hbox hg
  refine hK.out _ _ ⟨(blk_cell BK216.out 0).trans rfl,(blk_cell BK216.out 1).trans rfl,(blk_cell BK216.out 2).trans rfl,(blk_cell BK216.out 3).trans rfl,(blk_cell BK217.out 0).trans rfl,(blk_cell BK217.out 1).trans rfl,(blk_cell BK217.out 2).trans rfl,(blk_cell BK217.out 3).trans rfl⟩ (fun hHeld=>?_)
  clear hK K;refine norm_ (a':=?_) ?_ ?_;rotate_left
  ·show Act.put _ (some 8) _=_
   simp only [Act.put,tS_,tZ_,tC_,i64_w,i32_w];rfl
  refine one_ (i:=9) (N:=some 7) #[T_,T_,T_,T_,T_,T_,T_,T_,T_,T_,T_,F_,F_] rfl rfl (one_of HT_.out (by kernel_rfl)) (by decide) (fun K hK=>?_)
  refine box_step ?hg (N:=7) ?hd (cs:=#[.int .i64 0]) (t:=3) ?hr ?_;(case hd=>rfl);(case hg=>rfl);(case hr=>first|(go_simp;done)|(go_simp;rfl))
  intro gb228 hg w27 hbox hb
  have n0_:=Aside0.mk (blk_below (by (with_reducible repeat first|apply bN_|apply bD_|apply bA_);exact BK216.out) hb)
  have n1_:=Aside0.mk (blk_below (by (with_reducible repeat first|apply bN_|apply bD_|apply bA_);exact BK217.out) hb)
  have n2_:=Aside0.mk (blk_below (by (with_reducible repeat first|apply bN_|apply bD_|apply bA_);exact BK218.out) hb)
  have n3_:=Aside0.mk (blk_below (by (with_reducible repeat first|apply bN_|apply bD_|apply bA_);exact BK229.out) hb)
  have n4_:=Aside0.mk (below_step (by repeat first|(with_reducible first|exact HB.out|apply lA_|apply lN_|apply lD_|refine lS_ ?_ GE216.out|refine lS_ ?_ GE217.out|refine lS_ ?_ GE218.out|refine lS_ ?_ GE229.out)|exact HB.out) hb)
  have n5_:=Aside0.mk (hbox)
  have n6_:=Aside0.mk ((by rw [hg];exact (below_size (by repeat first|(with_reducible first|exact HB.out|apply lA_|apply lN_|apply lD_|refine lS_ ?_ GE216.out|refine lS_ ?_ GE217.out|refine lS_ ?_ GE218.out|refine lS_ ?_ GE229.out)|exact HB.out)):w.heap.size≤gb228))
  have n7_:=Aside0.mk ((by rw [hg];exact (below_size (by repeat first|(with_reducible first|exact HB.out|apply lA_|apply lN_|apply lD_|refine lS_ ?_ GE216.out|refine lS_ ?_ GE217.out|refine lS_ ?_ GE218.out|refine lS_ ?_ GE229.out)|exact HB.out)):w.heap.size≤gb228))
  have n8_:=Aside0.mk ((by rw [hg];exact Nat.ne_of_lt (blk_lt (g:=gb216) (o:=.cells #[.int .i64 t219,.int .i64 t220,.int .i64 t221,.int .i64 t222] 38 (0,0)) (by (with_reducible repeat first|apply bN_|apply bD_|apply bA_);exact BK216.out)):gb216 ≠ gb228))
  have n9_:=Aside0.mk ((by rw [hg];exact Nat.ne_of_gt (blk_lt (g:=gb216) (o:=.cells #[.int .i64 t219,.int .i64 t220,.int .i64 t221,.int .i64 t222] 38 (0,0)) (by (with_reducible repeat first|apply bN_|apply bD_|apply bA_);exact BK216.out)):gb228 ≠ gb216))
  have n10_:=Aside0.mk ((by rw [hg];exact Nat.ne_of_lt (blk_lt (g:=gb217) (o:=.cells #[.int .i64 t223,.int .i64 t224,.int .i64 t225,.int .i64 t226] 38 (0,0)) (by (with_reducible repeat first|apply bN_|apply bD_|apply bA_);exact BK217.out)):gb217 ≠ gb228))
  have n11_:=Aside0.mk ((by rw [hg];exact Nat.ne_of_gt (blk_lt (g:=gb217) (o:=.cells #[.int .i64 t223,.int .i64 t224,.int .i64 t225,.int .i64 t226] 38 (0,0)) (by (with_reducible repeat first|apply bN_|apply bD_|apply bA_);exact BK217.out)):gb228 ≠ gb217))
  have n12_:=Aside0.mk ((by rw [hg];exact Nat.ne_of_lt (blk_lt (g:=gb218) (o:=.cells #[.int .i64 0,.int .i64 0,.int .i64 0,.int .i64 0] 38 (0,0)) (by (with_reducible repeat first|apply bN_|apply bD_|apply bA_);exact BK218.out)):gb218 ≠ gb228))
  have n13_:=Aside0.mk ((by rw [hg];exact Nat.ne_of_gt (blk_lt (g:=gb218) (o:=.cells #[.int .i64 0,.int .i64 0,.int .i64 0,.int .i64 0] 38 (0,0)) (by (with_reducible repeat first|apply bN_|apply bD_|apply bA_);exact BK218.out)):gb228 ≠ gb218))
  have n14_:=Aside0.mk ((by rw [hg];exact Nat.ne_of_lt (blk_lt (g:=gb229) (o:=.cells #[.int .i64 0] 3 (0,0)) (by (with_reducible repeat first|apply bN_|apply bD_|apply bA_);exact BK229.out)):gb229 ≠ gb228))
  have n15_:=Aside0.mk ((by rw [hg];exact Nat.ne_of_gt (blk_lt (g:=gb229) (o:=.cells #[.int .i64 0] 3 (0,0)) (by (with_reducible repeat first|apply bN_|apply bD_|apply bA_);exact BK229.out)):gb228 ≠ gb229))
  clear BK216 BK217 BK218 BK229 HB;have BK216:=n0_;have BK217:=n1_;have BK218:=n2_;have BK229:=n3_;have HB:=n4_;have BK228:=n5_;have GW228:=n6_;have GE228:=n7_;have NB216_228:=n8_;have NB228_216:=n9_;have NB217_228:=n10_;have NB228_217:=n11_;have NB218_228:=n12_;have NB228_218:=n13_;have NB229_228:=n14_;have NB228_229:=n15_;clear n0_ n1_ n2_ n3_ n4_ n5_ n6_ n7_ n8_ n9_ n10_ n11_ n12_ n13_ n14_ n15_ hb hbox hg
  refine hK.out _ _ ⟨(blk_cell BK216.out 0).trans rfl,(blk_cell BK216.out 1).trans rfl,(blk_cell BK216.out 2).trans rfl,(blk_cell BK216.out 3).trans rfl,(blk_cell BK217.out 0).trans rfl,(blk_cell BK217.out 1).trans rfl,(blk_cell BK217.out 2).trans rfl,(blk_cell BK217.out 3).trans rfl⟩ (fun hHeld=>?_)
  clear hK K;refine norm_ (a':=?_) ?_ ?_;rotate_left
  ·show Act.put _ (some 7) _=_
   simp only [Act.put,tS_,tZ_,tC_,i64_w,i32_w];rfl
  exact norm_ (by simp only [putAll,Act.put,tS_,tZ_,tC_]) (hCont (gb228,gb229) _ ⟨hHeld,(by (with_reducible repeat first|apply bN_|apply bD_|apply bA_);exact BK216.out),(by (with_reducible repeat first|apply bN_|apply bD_|apply bA_);exact BK217.out),(by (with_reducible repeat first|apply bN_|apply bD_|apply bA_);exact BK218.out),(by (with_reducible repeat first|apply bN_|apply bD_|apply bA_);exact BK228.out),(by (with_reducible repeat first|apply bN_|apply bD_|apply bA_);exact BK229.out),GW228.out,GE228.out,NB216_228.out,NB228_216.out,NB217_228.out,NB228_217.out,NB218_228.out,NB228_218.out,NB229_228.out,NB228_229.out,GW229.out,GE229.out,NB216_229.out,NB229_216.out,NB217_229.out,NB229_217.out,NB218_229.out,NB229_218.out,(by repeat first|(with_reducible first|exact HB.out|apply lA_|apply lN_|apply lD_|refine lS_ ?_ GE216.out|refine lS_ ?_ GE217.out|refine lS_ ?_ GE218.out|refine lS_ ?_ GE229.out|refine lS_ ?_ GE228.out)|exact HB.out)⟩)
 rintro ⟨gb228,gb229⟩ w28 ⟨hS_,h0_,h1_,h2_,h3_,h4_,h5_,h6_,h7_,h8_,h9_,h10_,h11_,h12_,h13_,h14_,h15_,h16_,h17_,h18_,h19_,h20_,h21_,h22_,h23_⟩;have n0_:Aside0 (w28.heap[gb216]? = some (.cells #[.int .i64 t219,.int .i64 t220,.int .i64 t221,.int .i64 t222] 38 (0,0))):=⟨h0_⟩;have n1_:Aside0 (w28.heap[gb217]? = some (.cells #[.int .i64 t223,.int .i64 t224,.int .i64 t225,.int .i64 t226] 38 (0,0))):=⟨h1_⟩;have n2_:Aside0 (w28.heap[gb218]? = some (.cells #[.int .i64 0,.int .i64 0,.int .i64 0,.int .i64 0] 38 (0,0))):=⟨h2_⟩;have n3_:Aside0 (w28.heap[gb228]? = some (.cells #[.int .i64 0] 3 (0,0))):=⟨h3_⟩;have n4_:Aside0 (w28.heap[gb229]? = some (.cells #[.int .i64 0] 3 (0,0))):=⟨h4_⟩;have n5_:Aside0 (w.heap.size≤gb228):=⟨h5_⟩;have n6_:Aside0 (w.heap.size≤gb228):=⟨h6_⟩;have n7_:Aside0 (gb216 ≠ gb228):=⟨h7_⟩;have n8_:Aside0 (gb228 ≠ gb216):=⟨h8_⟩;have n9_:Aside0 (gb217 ≠ gb228):=⟨h9_⟩;have n10_:Aside0 (gb228 ≠ gb217):=⟨h10_⟩;have n11_:Aside0 (gb218 ≠ gb228):=⟨h11_⟩;have n12_:Aside0 (gb228 ≠ gb218):=⟨h12_⟩;have n13_:Aside0 (gb229 ≠ gb228):=⟨h13_⟩;have n14_:Aside0 (gb228 ≠ gb229):=⟨h14_⟩;have n15_:Aside0 (w.heap.size≤gb229):=⟨h15_⟩;have n16_:Aside0 (w.heap.size≤gb229):=⟨h16_⟩;have n17_:Aside0 (gb216 ≠ gb229):=⟨h17_⟩;have n18_:Aside0 (gb229 ≠ gb216):=⟨h18_⟩;have n19_:Aside0 (gb217 ≠ gb229):=⟨h19_⟩;have n20_:Aside0 (gb229 ≠ gb217):=⟨h20_⟩;have n21_:Aside0 (gb218 ≠ gb229):=⟨h21_⟩;have n22_:Aside0 (gb229 ≠ gb218):=⟨h22_⟩;have n23_:Aside0 (Below w.heap.size w w28):=⟨h23_⟩;clear BK216 BK217 BK218 HB h0_ h1_ h2_ h3_ h4_ h5_ h6_ h7_ h8_ h9_ h10_ h11_ h12_ h13_ h14_ h15_ h16_ h17_ h18_ h19_ h20_ h21_ h22_ h23_;have BK216:=n0_;have BK217:=n1_;have BK218:=n2_;have BK228:=n3_;have BK229:=n4_;have GW228:=n5_;have GE228:=n6_;have NB216_228:=n7_;have NB228_216:=n8_;have NB217_228:=n9_;have NB228_217:=n10_;have NB218_228:=n11_;have NB228_218:=n12_;have NB229_228:=n13_;have NB228_229:=n14_;have GW229:=n15_;have GE229:=n16_;have NB216_229:=n17_;have NB229_216:=n18_;have NB217_229:=n19_;have NB229_217:=n20_;have NB218_229:=n21_;have NB229_218:=n22_;have HB:=n23_
 clear n0_ n1_ n2_ n3_ n4_ n5_ n6_ n7_ n8_ n9_ n10_ n11_ n12_ n13_ n14_ n15_ n16_ n17_ n18_ n19_ n20_ n21_ n22_ n23_;have hHeld:w28.cell? ⟨gb216,0,none⟩=some (.int .i64 t219)∧w28.cell? ⟨gb216,1,none⟩=some (.int .i64 t220)∧w28.cell? ⟨gb216,2,none⟩=some (.int .i64 t221)∧w28.cell? ⟨gb216,3,none⟩=some (.int .i64 t222)∧w28.cell? ⟨gb217,0,none⟩=some (.int .i64 t223)∧w28.cell? ⟨gb217,1,none⟩=some (.int .i64 t224)∧w28.cell? ⟨gb217,2,none⟩=some (.int .i64 t225)∧w28.cell? ⟨gb217,3,none⟩=some (.int .i64 t226):=hS_;refine norm_ (a':=?_) ?_ ?_;rotate_left
 ·simp only [putAll,Act.put,tS_,tZ_,tC_]
  rfl
 refine one_ (i:=11) (N:=none) #[T_,T_,T_,T_,T_,T_,T_,T_,T_,T_,T_,T_,F_] rfl rfl (one_of HT_.out (by kernel_rfl)) (by decide) (fun K hK=>?_)
 have hs29:w28.cell? ⟨gb228,0,none⟩=some (.int .i64 0):=(blk_cell BK228.out 0).trans rfl;have hfs29:=blk_frozen BK228.out 0;have hns29_0:=NB216_228.out;have hns29_1:=NB217_228.out;have hns29_2:=NB218_228.out;have hns29_4:=NB229_228.out;have hms29_0:=NB228_216.out;have hms29_1:=NB228_217.out;have hms29_2:=NB228_218.out;have hms29_4:=NB228_229.out
 refine skip_ (w1:=?_) (by rfl) rfl ?_ ?_
 rotate_left
 ·go_simp
  rfl
 refine hK.out _ _ ⟨((cell_far (p:=⟨gb228,_,none⟩) NB216_228.out _).trans (hHeld.1)),((cell_far (p:=⟨gb228,_,none⟩) NB216_228.out _).trans (hHeld.2.1)),((cell_far (p:=⟨gb228,_,none⟩) NB216_228.out _).trans (hHeld.2.2.1)),((cell_far (p:=⟨gb228,_,none⟩) NB216_228.out _).trans (hHeld.2.2.2.1)),((cell_far (p:=⟨gb228,_,none⟩) NB217_228.out _).trans (hHeld.2.2.2.2.1)),((cell_far (p:=⟨gb228,_,none⟩) NB217_228.out _).trans (hHeld.2.2.2.2.2.1)),((cell_far (p:=⟨gb228,_,none⟩) NB217_228.out _).trans (hHeld.2.2.2.2.2.2.1)),((cell_far (p:=⟨gb228,_,none⟩) NB217_228.out _).trans (hHeld.2.2.2.2.2.2.2))⟩ (fun hHeld=>?_)
 clear hK K
 refine one_ (i:=12) (N:=none) #[T_,T_,T_,T_,T_,T_,T_,T_,T_,T_,T_,T_,T_] rfl rfl (one_of HT_.out (by kernel_rfl)) (by decide) (fun K hK=>?_)
 have hs30:w28.cell? ⟨gb229,0,none⟩=some (.int .i64 0):=(blk_cell BK229.out 0).trans rfl;have hfs30:=blk_frozen BK229.out 0;have hns30_0:=NB216_229.out;have hns30_1:=NB217_229.out;have hns30_2:=NB218_229.out;have hns30_3:=NB228_229.out;have hms30_0:=NB229_216.out;have hms30_1:=NB229_217.out;have hms30_2:=NB229_218.out;have hms30_3:=NB229_228.out
 refine skip_ (w1:=?_) (by rfl) rfl ?_ ?_
 rotate_left
 ·go_simp
  rfl
 refine hK.out _ _ ⟨((cell_far (p:=⟨gb229,_,none⟩) NB216_229.out _).trans (hHeld.1)),((cell_far (p:=⟨gb229,_,none⟩) NB216_229.out _).trans (hHeld.2.1)),((cell_far (p:=⟨gb229,_,none⟩) NB216_229.out _).trans (hHeld.2.2.1)),((cell_far (p:=⟨gb229,_,none⟩) NB216_229.out _).trans (hHeld.2.2.2.1)),((cell_far (p:=⟨gb229,_,none⟩) NB217_229.out _).trans (hHeld.2.2.2.2.1)),((cell_far (p:=⟨gb229,_,none⟩) NB217_229.out _).trans (hHeld.2.2.2.2.2.1)),((cell_far (p:=⟨gb229,_,none⟩) NB217_229.out _).trans (hHeld.2.2.2.2.2.2.1)),((cell_far (p:=⟨gb229,_,none⟩) NB217_229.out _).trans (hHeld.2.2.2.2.2.2.2))⟩ (fun hHeld=>?_)
 clear hK K
 refine done_ (done_of HT_.out (by kernel_rfl)) ?_
 have hnb31:=NB228_216.out;have hnc31:=NB216_228.out;have hnb32:=NB228_217.out;have hnc32:=NB217_228.out;have hnb33:=NB228_218.out;have hnc33:=NB218_228.out;have hnb34:=NB228_229.out;have hnc34:=NB229_228.out;have hcz35_0:w28.cell? ⟨gb228,0,none⟩=some (.int .i64 0):=(blk_cell BK228.out 0).trans rfl;have hfz35_0:=blk_frozen BK228.out 0;have hnb36:=NB229_216.out;have hnc36:=NB216_229.out;have hnb37:=NB229_217.out;have hnc37:=NB217_229.out;have hnb38:=NB229_218.out;have hnc38:=NB218_229.out;have hcz39_0:w28.cell? ⟨gb229,0,none⟩=some (.int .i64 0):=(blk_cell BK229.out 0).trans rfl;have hfz39_0:=blk_frozen BK229.out 0
 go_upto_if 33 with (first|((with_reducible refine gate_dst (N:=9) rfl ?_);refine box_event ?hg (N:=9) ?hd (cs:=#[.int .i64 0]) (t:=3) ?hr ?_;(case hd=>rfl);(case hg=>rfl);(case hr=>first|(go_simp;done)|(go_simp;rfl));intro gb230 hg w40 hbox hb;have n0_:=Aside0.mk (blk_below (g:=gb216) (o:=.cells #[.int .i64 t219,.int .i64 t220,.int .i64 t221,.int .i64 t222] 38 (0,0)) (by (with_reducible repeat first|apply bN_|apply bD_|apply bA_);refine blk_far ?_ NB216_229.out _;(with_reducible repeat first|apply bN_|apply bD_|apply bA_);refine blk_far ?_ NB216_228.out _;(with_reducible repeat first|apply bN_|apply bD_|apply bA_);exact BK216.out) hb);have n1_:=Aside0.mk (blk_below (g:=gb217) (o:=.cells #[.int .i64 t223,.int .i64 t224,.int .i64 t225,.int .i64 t226] 38 (0,0)) (by (with_reducible repeat first|apply bN_|apply bD_|apply bA_);refine blk_far ?_ NB217_229.out _;(with_reducible repeat first|apply bN_|apply bD_|apply bA_);refine blk_far ?_ NB217_228.out _;(with_reducible repeat first|apply bN_|apply bD_|apply bA_);exact BK217.out) hb);have n2_:=Aside0.mk (blk_below (g:=gb218) (o:=.cells #[.int .i64 0,.int .i64 0,.int .i64 0,.int .i64 0] 38 (0,0)) (by (with_reducible repeat first|apply bN_|apply bD_|apply bA_);refine blk_far ?_ NB218_229.out _;(with_reducible repeat first|apply bN_|apply bD_|apply bA_);refine blk_far ?_ NB218_228.out _;(with_reducible repeat first|apply bN_|apply bD_|apply bA_);exact BK218.out) hb);have n3_:=Aside0.mk (blk_below (g:=gb228) (o:=.cells #[.int .i64 (wrap64 (t222*(wrap64 (65535-t227))))] 3 (0,0)) (by (with_reducible repeat first|apply bN_|apply bD_|apply bA_);refine blk_far ?_ NB228_229.out _;(with_reducible repeat first|apply bN_|apply bD_|apply bA_);refine blk_put (cs:=#[.int .i64 0]) ?_ 0 _ rfl;(with_reducible repeat first|apply bN_|apply bD_|apply bA_);exact BK228.out) hb);have n4_:=Aside0.mk (blk_below (g:=gb229) (o:=.cells #[.int .i64 (wrap64 (t226*t227))] 3 (0,0)) (by (with_reducible repeat first|apply bN_|apply bD_|apply bA_);refine blk_put (cs:=#[.int .i64 0]) ?_ 0 _ rfl;(with_reducible repeat first|apply bN_|apply bD_|apply bA_);refine blk_far ?_ NB229_228.out _;(with_reducible repeat first|apply bN_|apply bD_|apply bA_);exact BK229.out) hb);have n5_:=Aside0.mk (below_step (by repeat first|(with_reducible first|exact HB.out|apply lA_|apply lN_|apply lD_|refine lS_ ?_ GE216.out|refine lS_ ?_ GE217.out|refine lS_ ?_ GE218.out|refine lS_ ?_ GE228.out|refine lS_ ?_ GE229.out)|exact HB.out) hb);have n6_:=Aside0.mk (hbox);have n7_:=Aside0.mk ((by rw [hg];exact (below_size (by repeat first|(with_reducible first|exact HB.out|apply lA_|apply lN_|apply lD_|refine lS_ ?_ GE216.out|refine lS_ ?_ GE217.out|refine lS_ ?_ GE218.out|refine lS_ ?_ GE228.out|refine lS_ ?_ GE229.out)|exact HB.out)):w.heap.size≤gb230));have n8_:=Aside0.mk ((by rw [hg];exact (below_size (by repeat first|(with_reducible first|exact HB.out|apply lA_|apply lN_|apply lD_|refine lS_ ?_ GE216.out|refine lS_ ?_ GE217.out|refine lS_ ?_ GE218.out|refine lS_ ?_ GE228.out|refine lS_ ?_ GE229.out)|exact HB.out)):w.heap.size≤gb230));have n9_:=Aside0.mk ((by rw [hg];exact Nat.ne_of_lt (blk_lt (g:=gb216) (o:=.cells #[.int .i64 t219,.int .i64 t220,.int .i64 t221,.int .i64 t222] 38 (0,0)) (by (with_reducible repeat first|apply bN_|apply bD_|apply bA_);refine blk_far ?_ NB216_229.out _;(with_reducible repeat first|apply bN_|apply bD_|apply bA_);refine blk_far ?_ NB216_228.out _;(with_reducible repeat first|apply bN_|apply bD_|apply bA_);exact BK216.out)):gb216 ≠ gb230));have n10_:=Aside0.mk ((by rw [hg];exact Nat.ne_of_gt (blk_lt (g:=gb216) (o:=.cells #[.int .i64 t219,.int .i64 t220,.int .i64 t221,.int .i64 t222] 38 (0,0)) (by (with_reducible repeat first|apply bN_|apply bD_|apply bA_);refine blk_far ?_ NB216_229.out _;(with_reducible repeat first|apply bN_|apply bD_|apply bA_);refine blk_far ?_ NB216_228.out _;(with_reducible repeat first|apply bN_|apply bD_|apply bA_);exact BK216.out)):gb230 ≠ gb216));have n11_:=Aside0.mk ((by rw [hg];exact Nat.ne_of_lt (blk_lt (g:=gb217) (o:=.cells #[.int .i64 t223,.int .i64 t224,.int .i64 t225,.int .i64 t226] 38 (0,0)) (by (with_reducible repeat first|apply bN_|apply bD_|apply bA_);refine blk_far ?_ NB217_229.out _;(with_reducible repeat first|apply bN_|apply bD_|apply bA_);refine blk_far ?_ NB217_228.out _;(with_reducible repeat first|apply bN_|apply bD_|apply bA_);exact BK217.out)):gb217 ≠ gb230));have n12_:=Aside0.mk ((by rw [hg];exact Nat.ne_of_gt (blk_lt (g:=gb217) (o:=.cells #[.int .i64 t223,.int .i64 t224,.int .i64 t225,.int .i64 t226] 38 (0,0)) (by (with_reducible repeat first|apply bN_|apply bD_|apply bA_);refine blk_far ?_ NB217_229.out _;(with_reducible repeat first|apply bN_|apply bD_|apply bA_);refine blk_far ?_ NB217_228.out _;(with_reducible repeat first|apply bN_|apply bD_|apply bA_);exact BK217.out)):gb230 ≠ gb217));have n13_:=Aside0.mk ((by rw [hg];exact Nat.ne_of_lt (blk_lt (g:=gb218) (o:=.cells #[.int .i64 0,.int .i64 0,.int .i64 0,.int .i64 0] 38 (0,0)) (by (with_reducible repeat first|apply bN_|apply bD_|apply bA_);refine blk_far ?_ NB218_229.out _;(with_reducible repeat first|apply bN_|apply bD_|apply bA_);refine blk_far ?_ NB218_228.out _;(with_reducible repeat first|apply bN_|apply bD_|apply bA_);exact BK218.out)):gb218 ≠ gb230));have n14_:=Aside0.mk ((by rw [hg];exact Nat.ne_of_gt (blk_lt (g:=gb218) (o:=.cells #[.int .i64 0,.int .i64 0,.int .i64 0,.int .i64 0] 38 (0,0)) (by (with_reducible repeat first|apply bN_|apply bD_|apply bA_);refine blk_far ?_ NB218_229.out _;(with_reducible repeat first|apply bN_|apply bD_|apply bA_);refine blk_far ?_ NB218_228.out _;(with_reducible repeat first|apply bN_|apply bD_|apply bA_);exact BK218.out)):gb230 ≠ gb218));have n15_:=Aside0.mk ((by rw [hg];exact Nat.ne_of_lt (blk_lt (g:=gb228) (o:=.cells #[.int .i64 (wrap64 (t222*(wrap64 (65535-t227))))] 3 (0,0)) (by (with_reducible repeat first|apply bN_|apply bD_|apply bA_);refine blk_far ?_ NB228_229.out _;(with_reducible repeat first|apply bN_|apply bD_|apply bA_);refine blk_put (cs:=#[.int .i64 0]) ?_ 0 _ rfl;(with_reducible repeat first|apply bN_|apply bD_|apply bA_);exact BK228.out)):gb228 ≠ gb230));have n16_:=Aside0.mk ((by rw [hg];exact Nat.ne_of_gt (blk_lt (g:=gb228) (o:=.cells #[.int .i64 (wrap64 (t222*(wrap64 (65535-t227))))] 3 (0,0)) (by (with_reducible repeat first|apply bN_|apply bD_|apply bA_);refine blk_far ?_ NB228_229.out _;(with_reducible repeat first|apply bN_|apply bD_|apply bA_);refine blk_put (cs:=#[.int .i64 0]) ?_ 0 _ rfl;(with_reducible repeat first|apply bN_|apply bD_|apply bA_);exact BK228.out)):gb230 ≠ gb228));have n17_:=Aside0.mk ((by rw [hg];exact Nat.ne_of_lt (blk_lt (g:=gb229) (o:=.cells #[.int .i64 (wrap64 (t226*t227))] 3 (0,0)) (by (with_reducible repeat first|apply bN_|apply bD_|apply bA_);refine blk_put (cs:=#[.int .i64 0]) ?_ 0 _ rfl;(with_reducible repeat first|apply bN_|apply bD_|apply bA_);refine blk_far ?_ NB229_228.out _;(with_reducible repeat first|apply bN_|apply bD_|apply bA_);exact BK229.out)):gb229 ≠ gb230));have n18_:=Aside0.mk ((by rw [hg];exact Nat.ne_of_gt (blk_lt (g:=gb229) (o:=.cells #[.int .i64 (wrap64 (t226*t227))] 3 (0,0)) (by (with_reducible repeat first|apply bN_|apply bD_|apply bA_);refine blk_put (cs:=#[.int .i64 0]) ?_ 0 _ rfl;(with_reducible repeat first|apply bN_|apply bD_|apply bA_);refine blk_far ?_ NB229_228.out _;(with_reducible repeat first|apply bN_|apply bD_|apply bA_);exact BK229.out)):gb230 ≠ gb229));clear BK216;clear BK217;clear BK218;clear BK228;clear BK229;clear HB;have BK216:=n0_;have BK217:=n1_;have BK218:=n2_;have BK228:=n3_;have BK229:=n4_;have HB:=n5_;have BK230:=n6_;have GW230:=n7_;have GE230:=n8_;have NB216_230:=n9_;have NB230_216:=n10_;have NB217_230:=n11_;have NB230_217:=n12_;have NB218_230:=n13_;have NB230_218:=n14_;have NB228_230:=n15_;have NB230_228:=n16_;have NB229_230:=n17_;have NB230_229:=n18_;clear n0_ n1_ n2_ n3_ n4_ n5_ n6_ n7_ n8_ n9_ n10_ n11_ n12_ n13_ n14_ n15_ n16_ n17_ n18_;clear hb hbox hg;have hnb41:=NB230_216.out;have hnc41:=NB216_230.out;have hnb42:=NB230_217.out;have hnc42:=NB217_230.out;have hnb43:=NB230_218.out;have hnc43:=NB218_230.out;have hnb44:=NB230_228.out;have hnc44:=NB228_230.out;have hnb45:=NB230_229.out;have hnc45:=NB229_230.out;have hcz46_0:w40.cell? ⟨gb230,0,none⟩=some (.int .i64 0):=(blk_cell BK230.out 0).trans rfl;have hfz46_0:=blk_frozen BK230.out 0)|((with_reducible refine gate_callee (f:=46) rfl ?_);refine goesL_ (some 31) rfl rfl Try.func46 (by kernel_rfl) rfl #[.int .i64 (wrap64 ((wrap64 (t222*(wrap64 (65535-t227))))+(wrap64 (t226*t227)))),.int .i64 65535] rfl (by (try simp only [mA_,mC_,mN_]);first|done|rfl|(simp only [dL_,kL_];rfl)) ?_;(with_reducible refine (num_Div.calls k (wrap64 ((wrap64 (t222*(wrap64 (65535-t227))))+(wrap64 (t226*t227)))) 65535 t231 _ A7.out).mono ?_);rintro e w' ⟨rfl,⟨nd,rfl⟩⟩;refine ⟨_,rfl,?_⟩))
 (try simp only [Act.put,tS_,tZ_,tC_])
 go_cut [] (fun wc=>∃ (kq:Nat) (x219000_7:Int) (x219001_7:Int) (x219002_7:Int) (x219003_7:Int),Aside0 (pixel_Mix.j0 kq t231 t219 t220 t221 t222 t223 t224 t225 t226 (wrap64 (t222*(wrap64 (65535-t227)))) (wrap64 (t226*t227)) (wrap64 ((wrap64 (t222*(wrap64 (65535-t227))))+(wrap64 (t226*t227))))=some (r1,r2,r3,r4))∧Aside0 (kq≤k)∧Aside0 (wc.heap[gb216]? = some (.cells #[.int .i64 t219,.int .i64 t220,.int .i64 t221,.int .i64 t222] 38 (0,0)))∧Aside0 (wc.heap[gb217]? = some (.cells #[.int .i64 t223,.int .i64 t224,.int .i64 t225,.int .i64 t226] 38 (0,0)))∧Aside0 (wc.heap[gb218]? = some (.cells #[.int .i64 x219000_7,.int .i64 x219001_7,.int .i64 x219002_7,.int .i64 x219003_7] 38 (0,0)))∧Aside0 (wc.heap[gb228]? = some (.cells #[.int .i64 (wrap64 (t222*(wrap64 (65535-t227))))] 3 (0,0)))∧Aside0 (wc.heap[gb229]? = some (.cells #[.int .i64 (wrap64 (t226*t227))] 3 (0,0)))∧Aside0 (wc.heap[gb230]? = some (.cells #[.int .i64 (wrap64 ((wrap64 (t222*(wrap64 (65535-t227))))+(wrap64 (t226*t227))))] 3 (0,0)))∧Aside0 (Below w.heap.size w wc))
 case first =>
  have H:=HC8.out;clear HC8;by_cases c47:t231=0
  ·rw [if_pos c47] at H
   have c47b0:=beq_iff_eq.mpr c47;have c47b1:=bne_eq_false_iff_eq.mpr c47;clear c47
   (first|rw [c47b0]|(simp only [i64_w,i32_w];rw [c47b0])|skip)
   simp only [Option.some.injEq,Prod.mk.injEq] at H;obtain ⟨rfl,rfl,rfl,rfl⟩:=H;have hnb48:=NB218_216.out;have hnc48:=NB216_218.out;have hnb49:=NB218_217.out;have hnc49:=NB217_218.out;have hnb50:=NB218_228.out;have hnc50:=NB228_218.out;have hnb51:=NB218_229.out;have hnc51:=NB229_218.out;have hnb52:=NB218_230.out;have hnc52:=NB230_218.out;have hcz53_0:w40.cell? ⟨gb218,0,none⟩=some (.int .i64 0):=(blk_cell BK218.out 0).trans rfl;have hcz53_1:w40.cell? ⟨gb218,1,none⟩=some (.int .i64 0):=(blk_cell BK218.out 1).trans rfl;have hcz53_2:w40.cell? ⟨gb218,2,none⟩=some (.int .i64 0):=(blk_cell BK218.out 2).trans rfl;have hcz53_3:w40.cell? ⟨gb218,3,none⟩=some (.int .i64 0):=(blk_cell BK218.out 3).trans rfl;have hfz53_0:=blk_frozen BK218.out 0;have hfz53_1:=blk_frozen BK218.out 1;have hfz53_2:=blk_frozen BK218.out 2;have hfz53_3:=blk_frozen BK218.out 3
   go_wp2
   refine bodyPost_ret (results_cell_row rfl _ _ gb218 38 #[.int .i64 0,.int .i64 0,.int .i64 0,.int .i64 0] (0,0) _ rfl (by (with_reducible repeat first|apply bN_|apply bD_|apply bA_);refine blk_put (cs:=#[.int .i64 0,.int .i64 0,.int .i64 0,.int .i64 0]) ?_ 3 _ rfl;(with_reducible repeat first|apply bN_|apply bD_|apply bA_);refine blk_put (cs:=#[.int .i64 0,.int .i64 0,.int .i64 0,.int .i64 0]) ?_ 2 _ rfl;(with_reducible repeat first|apply bN_|apply bD_|apply bA_);refine blk_put (cs:=#[.int .i64 0,.int .i64 0,.int .i64 0,.int .i64 0]) ?_ 1 _ rfl;(with_reducible repeat first|apply bN_|apply bD_|apply bA_);refine blk_put (cs:=#[.int .i64 0,.int .i64 0,.int .i64 0,.int .i64 0]) ?_ 0 _ rfl;(with_reducible repeat first|apply bN_|apply bD_|apply bA_);refine blk_far ?_ NB218_230.out _;(with_reducible repeat first|apply bN_|apply bD_|apply bA_);exact BK218.out) Try.underlying38 rfl (by kernel_rfl)) rfl ?_
   exact ⟨by first|rfl|(simp [errW_none,errW_some] <;> rfl)|(simp [*,errW_none,errW_some] <;> rfl),by repeat first|(with_reducible first|exact HB.out|apply lA_|apply lN_|apply lD_|refine lS_ ?_ GE216.out|refine lS_ ?_ GE217.out|refine lS_ ?_ GE218.out|refine lS_ ?_ GE228.out|refine lS_ ?_ GE229.out|refine lS_ ?_ GE230.out)|exact HB.out⟩
  rw [if_neg c47] at H;have c47b0:(t231==0)=false:=beq_eq_false_iff_ne.mpr c47;have c47b1:(t231 != 0)=true:=bne_iff_ne.mpr c47
  (first|rw [c47b0]|(simp only [i64_w,i32_w];rw [c47b0])|skip)
  have H':=Aside0.mk H;clear H
  go_wp2
  go_meet
  case rel=>exact ⟨_,(0),(0),(0),(0),H',⟨by first|omega|exact Nat.le_refl _⟩,⟨by (with_reducible repeat first|apply bN_|apply bD_|apply bA_);refine blk_far ?_ NB216_230.out _;(with_reducible repeat first|apply bN_|apply bD_|apply bA_);exact BK216.out⟩,⟨by (with_reducible repeat first|apply bN_|apply bD_|apply bA_);refine blk_far ?_ NB217_230.out _;(with_reducible repeat first|apply bN_|apply bD_|apply bA_);exact BK217.out⟩,⟨by (with_reducible repeat first|apply bN_|apply bD_|apply bA_);refine blk_far ?_ NB218_230.out _;(with_reducible repeat first|apply bN_|apply bD_|apply bA_);exact BK218.out⟩,⟨by (with_reducible repeat first|apply bN_|apply bD_|apply bA_);refine blk_far ?_ NB228_230.out _;(with_reducible repeat first|apply bN_|apply bD_|apply bA_);exact BK228.out⟩,⟨by (with_reducible repeat first|apply bN_|apply bD_|apply bA_);refine blk_far ?_ NB229_230.out _;(with_reducible repeat first|apply bN_|apply bD_|apply bA_);exact BK229.out⟩,⟨by (with_reducible repeat first|apply bN_|apply bD_|apply bA_);refine blk_put (cs:=#[.int .i64 0]) ?_ 0 _ rfl;(with_reducible repeat first|apply bN_|apply bD_|apply bA_);exact BK230.out⟩,⟨by repeat first|(with_reducible first|exact HB.out|apply lA_|apply lN_|apply lD_|refine lS_ ?_ GE216.out|refine lS_ ?_ GE217.out|refine lS_ ?_ GE218.out|refine lS_ ?_ GE228.out|refine lS_ ?_ GE229.out|refine lS_ ?_ GE230.out)|exact HB.out⟩⟩
 clear HC8;obtain ⟨kq,x219000_7,x219001_7,x219002_7,x219003_7,HA,HJ7,BK216,BK217,BK218,BK228,BK229,BK230,HB⟩:=hcut
 cases kq with
 | zero=>exact absurd HA.out (by simp [pixel_Mix.j0])
 | succ kj7 =>
  have H:=HA.out;clear HA;simp only [pixel_Mix.j0] at H;replace H:=Option.bind_eq_some_iff.mp H;obtain ⟨t232,A540,H⟩:=H
  replace H:((pixel_Mix_1.f kj7 t220 t224 (wrap64 (t222*(wrap64 (65535-t227)))) (wrap64 (t226*t227)) (wrap64 ((wrap64 (t222*(wrap64 (65535-t227))))+(wrap64 (t226*t227))))).bind fun t233=>((pixel_Mix_1.f kj7 t221 t225 (wrap64 (t222*(wrap64 (65535-t227)))) (wrap64 (t226*t227)) (wrap64 ((wrap64 (t222*(wrap64 (65535-t227))))+(wrap64 (t226*t227))))).bind fun t234=>(some (t232,t233,t234,t231))))=some (r1,r2,r3,r4):=H
  have A54:=Aside0.mk A540;clear A540;replace H:=Option.bind_eq_some_iff.mp H;obtain ⟨t233,A550,H⟩:=H
  replace H:((pixel_Mix_1.f kj7 t221 t225 (wrap64 (t222*(wrap64 (65535-t227)))) (wrap64 (t226*t227)) (wrap64 ((wrap64 (t222*(wrap64 (65535-t227))))+(wrap64 (t226*t227))))).bind fun t234=>(some (t232,t233,t234,t231)))=some (r1,r2,r3,r4):=H
  have A55:=Aside0.mk A550;clear A550;replace H:=Option.bind_eq_some_iff.mp H;obtain ⟨t234,A560,H⟩:=H;replace H:(some (t232,t233,t234,t231))=some (r1,r2,r3,r4):=H;have A56:=Aside0.mk A560;clear A560;simp only [Option.some.injEq,Prod.mk.injEq] at H;obtain ⟨rfl,rfl,rfl,rfl⟩:=H
  try go_wp2
  have n0_:=Aside0.mk (blk_drew BK216.out);have n1_:=Aside0.mk (blk_drew BK217.out);have n2_:=Aside0.mk (blk_drew BK218.out);have n3_:=Aside0.mk (blk_drew BK228.out);have n4_:=Aside0.mk (blk_drew BK229.out);have n5_:=Aside0.mk (blk_drew BK230.out);have n6_:=Aside0.mk (lD_ HB.out);clear BK216 BK217 BK218 BK228 BK229 BK230 HB;have BK216:=n0_;have BK217:=n1_;have BK218:=n2_;have BK228:=n3_;have BK229:=n4_;have BK230:=n5_;have HB:=n6_;clear n0_ n1_ n2_ n3_ n4_ n5_ n6_
  refine start_ (n:=21) (S:=fun w'=>w'.cell? ⟨gb216,0,none⟩=some (.int .i64 t219)∧w'.cell? ⟨gb216,1,none⟩=some (.int .i64 t220)∧w'.cell? ⟨gb216,2,none⟩=some (.int .i64 t221)∧w'.cell? ⟨gb216,3,none⟩=some (.int .i64 t222)∧w'.cell? ⟨gb217,0,none⟩=some (.int .i64 t223)∧w'.cell? ⟨gb217,1,none⟩=some (.int .i64 t224)∧w'.cell? ⟨gb217,2,none⟩=some (.int .i64 t225)∧w'.cell? ⟨gb217,3,none⟩=some (.int .i64 t226)) (ds:=[]) #[F_,F_,F_,F_,F_,F_,F_,F_,F_,F_,F_,F_,F_,F_,F_,F_,F_,F_,F_,F_,F_] (by kernel_rfl) rfl rfl ⟨(blk_cell BK216.out 0).trans rfl,(blk_cell BK216.out 1).trans rfl,(blk_cell BK216.out 2).trans rfl,(blk_cell BK216.out 3).trans rfl,(blk_cell BK217.out 0).trans rfl,(blk_cell BK217.out 1).trans rfl,(blk_cell BK217.out 2).trans rfl,(blk_cell BK217.out 3).trans rfl⟩ (fun hHeld=>?_);refine with_tabW pixel_Mix.tab8 pixel_Mix.bits8 (fun HT_ HW_=>?_)
  generalize wc.drew=w57 at BK216 BK217 BK218 BK228 BK229 BK230 HB hHeld ⊢
  refine pure_ (i:=0) (N:=some 36) (v:=?_) (a':=?_) #[T_,F_,F_,F_,F_,F_,F_,F_,F_,F_,F_,F_,F_,F_,F_,F_,F_,F_,F_,F_,F_] rfl rfl (any_of HT_.out (by kernel_rfl)) (fun _ _ _ h=>h) (Or.inl ⟨by rfl,?_⟩) ?_ ?_
  rotate_left
  ·intro w'
   go_simp
   with_reducible rfl
  rotate_left
  ·simp only [Act.put,tS_,tZ_,tC_,i64_w,i32_w]
   rfl
  refine pure_ (i:=1) (N:=some 37) (v:=?_) (a':=?_) #[T_,T_,F_,F_,F_,F_,F_,F_,F_,F_,F_,F_,F_,F_,F_,F_,F_,F_,F_,F_,F_] rfl rfl (any_of HT_.out (by kernel_rfl)) (fun _ _ _ h=>h) (Or.inl ⟨by rfl,?_⟩) ?_ ?_
  rotate_left
  ·intro w'
   go_simp
   with_reducible rfl
  rotate_left
  ·simp only [Act.put,tS_,tZ_,tC_,i64_w,i32_w]
   rfl
  refine pure_ (i:=3) (N:=some 39) (v:=?_) (a':=?_) #[T_,T_,F_,T_,F_,F_,F_,F_,F_,F_,F_,F_,F_,F_,F_,F_,F_,F_,F_,F_,F_] rfl rfl (any_of HT_.out (by kernel_rfl)) (fun _ _ _ h=>h) (Or.inl ⟨by rfl,?_⟩) ?_ ?_
  rotate_left
  ·intro w'
   go_simp
   with_reducible rfl
  rotate_left
  ·simp only [Act.put,tS_,tZ_,tC_,i64_w,i32_w]
   rfl
  refine pure_ (i:=6) (N:=some 42) (v:=?_) (a':=?_) #[T_,T_,F_,T_,F_,F_,T_,F_,F_,F_,F_,F_,F_,F_,F_,F_,F_,F_,F_,F_,F_] rfl rfl (any_of HT_.out (by kernel_rfl)) (fun _ _ _ h=>h) (Or.inl ⟨by rfl,?_⟩) ?_ ?_
  rotate_left
  ·intro w'
   go_simp
   with_reducible rfl
  rotate_left
  ·simp only [Act.put,tS_,tZ_,tC_,i64_w,i32_w]
   rfl
  refine pure_ (i:=7) (N:=some 43) (v:=?_) (a':=?_) #[T_,T_,F_,T_,F_,F_,T_,T_,F_,F_,F_,F_,F_,F_,F_,F_,F_,F_,F_,F_,F_] rfl rfl (any_of HT_.out (by kernel_rfl)) (fun _ _ _ h=>h) (Or.inl ⟨by rfl,?_⟩) ?_ ?_
  rotate_left
  ·intro w'
   go_simp
   with_reducible rfl
  rotate_left
  ·simp only [Act.put,tS_,tZ_,tC_,i64_w,i32_w]
   rfl
  refine pure_ (i:=9) (N:=some 45) (v:=?_) (a':=?_) #[T_,T_,F_,T_,F_,F_,T_,T_,F_,T_,F_,F_,F_,F_,F_,F_,F_,F_,F_,F_,F_] rfl rfl (any_of HT_.out (by kernel_rfl)) (fun _ _ _ h=>h) (Or.inl ⟨by rfl,?_⟩) ?_ ?_
  rotate_left
  ·intro w'
   go_simp
   with_reducible rfl
  rotate_left
  ·simp only [Act.put,tS_,tZ_,tC_,i64_w,i32_w]
   rfl
  refine pure_ (i:=12) (N:=some 48) (v:=?_) (a':=?_) #[T_,T_,F_,T_,F_,F_,T_,T_,F_,T_,F_,F_,T_,F_,F_,F_,F_,F_,F_,F_,F_] rfl rfl (any_of HT_.out (by kernel_rfl)) (fun _ _ _ h=>h) (Or.inl ⟨by rfl,?_⟩) ?_ ?_
  rotate_left
  ·intro w'
   go_simp
   with_reducible rfl
  rotate_left
  ·simp only [Act.put,tS_,tZ_,tC_,i64_w,i32_w]
   rfl
  refine pure_ (i:=13) (N:=some 49) (v:=?_) (a':=?_) #[T_,T_,F_,T_,F_,F_,T_,T_,F_,T_,F_,F_,T_,T_,F_,F_,F_,F_,F_,F_,F_] rfl rfl (any_of HT_.out (by kernel_rfl)) (fun _ _ _ h=>h) (Or.inl ⟨by rfl,?_⟩) ?_ ?_
  rotate_left
  ·intro w'
   go_simp
   with_reducible rfl
  rotate_left
  ·simp only [Act.put,tS_,tZ_,tC_,i64_w,i32_w]
   rfl
  refine pure_ (i:=15) (N:=some 51) (v:=?_) (a':=?_) #[T_,T_,F_,T_,F_,F_,T_,T_,F_,T_,F_,F_,T_,T_,F_,T_,F_,F_,F_,F_,F_] rfl rfl (any_of HT_.out (by kernel_rfl)) (fun _ _ _ h=>h) (Or.inl ⟨by rfl,?_⟩) ?_ ?_
  rotate_left
  ·intro w'
   go_simp
   with_reducible rfl
  rotate_left
  ·simp only [Act.put,tS_,tZ_,tC_,i64_w,i32_w]
   rfl
  refine pure_ (i:=18) (N:=some 54) (v:=?_) (a':=?_) #[T_,T_,F_,T_,F_,F_,T_,T_,F_,T_,F_,F_,T_,T_,F_,T_,F_,F_,T_,F_,F_] rfl rfl (any_of HT_.out (by kernel_rfl)) (fun _ _ _ h=>h) (Or.inl ⟨by rfl,?_⟩) ?_ ?_
  rotate_left
  ·intro w'
   go_simp
   with_reducible rfl
  rotate_left
  ·simp only [Act.put,tS_,tZ_,tC_,i64_w,i32_w]
   rfl
  refine take_ (i:=2) (N:=some 38) (v:=?_) (a':=?_) #[T_,T_,T_,T_,F_,F_,T_,T_,F_,T_,F_,F_,T_,T_,F_,T_,F_,F_,T_,F_,F_] rfl rfl (take_ofW HT_.out HW_.out (by kernel_rfl)) (fun _ _ _ h=>h) (Or.inl ⟨by rfl,?_⟩) hHeld ?_ ?_
  rotate_left
  ·rintro w' ⟨s0,s1,s2,s3,s4,s5,s6,s7⟩
   go_simp
   with_reducible rfl
  rotate_left
  ·simp only [Act.put,tS_,tZ_,tC_,i64_w,i32_w]
   rfl
  refine take_ (i:=4) (N:=some 40) (v:=?_) (a':=?_) #[T_,T_,T_,T_,T_,F_,T_,T_,F_,T_,F_,F_,T_,T_,F_,T_,F_,F_,T_,F_,F_] rfl rfl (take_ofW HT_.out HW_.out (by kernel_rfl)) (fun _ _ _ h=>h) (Or.inl ⟨by rfl,?_⟩) hHeld ?_ ?_
  rotate_left
  ·rintro w' ⟨s0,s1,s2,s3,s4,s5,s6,s7⟩
   go_simp
   with_reducible rfl
  rotate_left
  ·simp only [Act.put,tS_,tZ_,tC_,i64_w,i32_w]
   rfl
  refine take_ (i:=8) (N:=some 44) (v:=?_) (a':=?_) #[T_,T_,T_,T_,T_,F_,T_,T_,T_,T_,F_,F_,T_,T_,F_,T_,F_,F_,T_,F_,F_] rfl rfl (take_ofW HT_.out HW_.out (by kernel_rfl)) (fun _ _ _ h=>h) (Or.inl ⟨by rfl,?_⟩) hHeld ?_ ?_
  rotate_left
  ·rintro w' ⟨s0,s1,s2,s3,s4,s5,s6,s7⟩
   go_simp
   with_reducible rfl
  rotate_left
  ·simp only [Act.put,tS_,tZ_,tC_,i64_w,i32_w]
   rfl
  refine take_ (i:=10) (N:=some 46) (v:=?_) (a':=?_) #[T_,T_,T_,T_,T_,F_,T_,T_,T_,T_,T_,F_,T_,T_,F_,T_,F_,F_,T_,F_,F_] rfl rfl (take_ofW HT_.out HW_.out (by kernel_rfl)) (fun _ _ _ h=>h) (Or.inl ⟨by rfl,?_⟩) hHeld ?_ ?_
  rotate_left
  ·rintro w' ⟨s0,s1,s2,s3,s4,s5,s6,s7⟩
   go_simp
   with_reducible rfl
  rotate_left
  ·simp only [Act.put,tS_,tZ_,tC_,i64_w,i32_w]
   rfl
  refine take_ (i:=14) (N:=some 50) (v:=?_) (a':=?_) #[T_,T_,T_,T_,T_,F_,T_,T_,T_,T_,T_,F_,T_,T_,T_,T_,F_,F_,T_,F_,F_] rfl rfl (take_ofW HT_.out HW_.out (by kernel_rfl)) (fun _ _ _ h=>h) (Or.inl ⟨by rfl,?_⟩) hHeld ?_ ?_
  rotate_left
  ·rintro w' ⟨s0,s1,s2,s3,s4,s5,s6,s7⟩
   go_simp
   with_reducible rfl
  rotate_left
  ·simp only [Act.put,tS_,tZ_,tC_,i64_w,i32_w]
   rfl
  refine take_ (i:=16) (N:=some 52) (v:=?_) (a':=?_) #[T_,T_,T_,T_,T_,F_,T_,T_,T_,T_,T_,F_,T_,T_,T_,T_,T_,F_,T_,F_,F_] rfl rfl (take_ofW HT_.out HW_.out (by kernel_rfl)) (fun _ _ _ h=>h) (Or.inl ⟨by rfl,?_⟩) hHeld ?_ ?_
  rotate_left
  ·rintro w' ⟨s0,s1,s2,s3,s4,s5,s6,s7⟩
   go_simp
   with_reducible rfl
  rotate_left
  ·simp only [Act.put,tS_,tZ_,tC_,i64_w,i32_w]
   rfl
  refine one_ (i:=5) (N:=some 41) #[T_,T_,T_,T_,T_,T_,T_,T_,T_,T_,T_,F_,T_,T_,T_,T_,T_,F_,T_,F_,F_] rfl rfl (one_of HT_.out (by kernel_rfl)) (by decide) (fun K hK=>?_)
  refine goesC_ #[.pointer (some ⟨gb228,0,none⟩),.pointer (some ⟨gb229,0,none⟩),.pointer (some ⟨gb230,0,none⟩)] Try.func60 (by kernel_rfl) rfl #[.int .i64 t219,.int .i64 t223] #[.int .i64 t219,.int .i64 t223,.pointer (some ⟨gb228,0,none⟩),.pointer (some ⟨gb229,0,none⟩),.pointer (some ⟨gb230,0,none⟩)] (by rfl) rfl rfl rfl (by (try simp only [mA_,mC_,mN_]);first|done|rfl|(simp only [dL_,kL_];rfl)) (by rfl) ?_
  with_reducible refine (pixel_Mix_1.calls kj7 t219 t223 (wrap64 (t222*(wrap64 (65535-t227)))) (wrap64 (t226*t227)) (wrap64 ((wrap64 (t222*(wrap64 (65535-t227))))+(wrap64 (t226*t227)))) t232 _ gb228 (by (with_reducible repeat first|apply bN_|apply bD_|apply bA_);exact BK228.out) gb229 (by (with_reducible repeat first|apply bN_|apply bD_|apply bA_);exact BK229.out) gb230 (by (with_reducible repeat first|apply bN_|apply bD_|apply bA_);exact BK230.out) A54.out).mono ?_
  rintro e w' ⟨rfl,⟨nd,rfl⟩⟩;refine ⟨_,rfl,?_⟩
  refine hK.out _ _ ⟨(blk_cell BK216.out 0).trans rfl,(blk_cell BK216.out 1).trans rfl,(blk_cell BK216.out 2).trans rfl,(blk_cell BK216.out 3).trans rfl,(blk_cell BK217.out 0).trans rfl,(blk_cell BK217.out 1).trans rfl,(blk_cell BK217.out 2).trans rfl,(blk_cell BK217.out 3).trans rfl⟩ (fun hHeld=>?_)
  clear hK K;refine norm_ (a':=?_) ?_ ?_;rotate_left
  ·show Act.put _ (some 41) _=_
   simp only [Act.put,tS_,tZ_,tC_,i64_w,i32_w];rfl
  refine one_ (i:=11) (N:=some 47) #[T_,T_,T_,T_,T_,T_,T_,T_,T_,T_,T_,T_,T_,T_,T_,T_,T_,F_,T_,F_,F_] rfl rfl (one_of HT_.out (by kernel_rfl)) (by decide) (fun K hK=>?_)
  refine goesC_ #[.pointer (some ⟨gb228,0,none⟩),.pointer (some ⟨gb229,0,none⟩),.pointer (some ⟨gb230,0,none⟩)] Try.func60 (by kernel_rfl) rfl #[.int .i64 t220,.int .i64 t224] #[.int .i64 t220,.int .i64 t224,.pointer (some ⟨gb228,0,none⟩),.pointer (some ⟨gb229,0,none⟩),.pointer (some ⟨gb230,0,none⟩)] (by rfl) rfl rfl rfl (by (try simp only [mA_,mC_,mN_]);first|done|rfl|(simp only [dL_,kL_];rfl)) (by rfl) ?_
  with_reducible refine (pixel_Mix_1.calls kj7 t220 t224 (wrap64 (t222*(wrap64 (65535-t227)))) (wrap64 (t226*t227)) (wrap64 ((wrap64 (t222*(wrap64 (65535-t227))))+(wrap64 (t226*t227)))) t233 _ gb228 (by (with_reducible repeat first|apply bN_|apply bD_|apply bA_);exact BK228.out) gb229 (by (with_reducible repeat first|apply bN_|apply bD_|apply bA_);exact BK229.out) gb230 (by (with_reducible repeat first|apply bN_|apply bD_|apply bA_);exact BK230.out) A55.out).mono ?_
  rintro e w' ⟨rfl,⟨nd,rfl⟩⟩;refine ⟨_,rfl,?_⟩
  refine hK.out _ _ ⟨(blk_cell BK216.out 0).trans rfl,(blk_cell BK216.out 1).trans rfl,(blk_cell BK216.out 2).trans rfl,(blk_cell BK216.out 3).trans rfl,(blk_cell BK217.out 0).trans rfl,(blk_cell BK217.out 1).trans rfl,(blk_cell BK217.out 2).trans rfl,(blk_cell BK217.out 3).trans rfl⟩ (fun hHeld=>?_)
  clear hK K;refine norm_ (a':=?_) ?_ ?_;rotate_left
  ·show Act.put _ (some 47) _=_
   simp only [Act.put,tS_,tZ_,tC_,i64_w,i32_w];rfl
  refine one_ (i:=17) (N:=some 53) #[T_,T_,T_,T_,T_,T_,T_,T_,T_,T_,T_,T_,T_,T_,T_,T_,T_,T_,T_,F_,F_] rfl rfl (one_of HT_.out (by kernel_rfl)) (by decide) (fun K hK=>?_)
  refine goesC_ #[.pointer (some ⟨gb228,0,none⟩),.pointer (some ⟨gb229,0,none⟩),.pointer (some ⟨gb230,0,none⟩)] Try.func60 (by kernel_rfl) rfl #[.int .i64 t221,.int .i64 t225] #[.int .i64 t221,.int .i64 t225,.pointer (some ⟨gb228,0,none⟩),.pointer (some ⟨gb229,0,none⟩),.pointer (some ⟨gb230,0,none⟩)] (by rfl) rfl rfl rfl (by (try simp only [mA_,mC_,mN_]);first|done|rfl|(simp only [dL_,kL_];rfl)) (by rfl) ?_
  with_reducible refine (pixel_Mix_1.calls kj7 t221 t225 (wrap64 (t222*(wrap64 (65535-t227)))) (wrap64 (t226*t227)) (wrap64 ((wrap64 (t222*(wrap64 (65535-t227))))+(wrap64 (t226*t227)))) t234 _ gb228 (by (with_reducible repeat first|apply bN_|apply bD_|apply bA_);exact BK228.out) gb229 (by (with_reducible repeat first|apply bN_|apply bD_|apply bA_);exact BK229.out) gb230 (by (with_reducible repeat first|apply bN_|apply bD_|apply bA_);exact BK230.out) A56.out).mono ?_
  rintro e w' ⟨rfl,⟨nd,rfl⟩⟩;refine ⟨_,rfl,?_⟩
  refine hK.out _ _ ⟨(blk_cell BK216.out 0).trans rfl,(blk_cell BK216.out 1).trans rfl,(blk_cell BK216.out 2).trans rfl,(blk_cell BK216.out 3).trans rfl,(blk_cell BK217.out 0).trans rfl,(blk_cell BK217.out 1).trans rfl,(blk_cell BK217.out 2).trans rfl,(blk_cell BK217.out 3).trans rfl⟩ (fun hHeld=>?_)
  clear hK K;refine norm_ (a':=?_) ?_ ?_;rotate_left
  ·show Act.put _ (some 53) _=_
   simp only [Act.put,tS_,tZ_,tC_,i64_w,i32_w];rfl
  refine pure_ (i:=19) (N:=some 55) (v:=?_) (a':=?_) #[T_,T_,T_,T_,T_,T_,T_,T_,T_,T_,T_,T_,T_,T_,T_,T_,T_,T_,T_,T_,F_] rfl rfl (any_of HT_.out (by kernel_rfl)) (fun _ _ _ h=>h) (Or.inl ⟨by rfl,?_⟩) ?_ ?_
  rotate_left
  ·intro w'
   go_simp
   with_reducible rfl
  rotate_left
  ·simp only [Act.put,tS_,tZ_,tC_,i64_w,i32_w]
   rfl
  refine one_ (i:=20) (N:=none) #[T_,T_,T_,T_,T_,T_,T_,T_,T_,T_,T_,T_,T_,T_,T_,T_,T_,T_,T_,T_,T_] rfl rfl (one_of HT_.out (by kernel_rfl)) (by decide) (fun K hK=>?_)
  have hs58:w57.cell? ⟨gb218,0,none⟩=some (.int .i64 x219000_7):=(blk_cell BK218.out 0).trans rfl;have hfs58:=blk_frozen BK218.out 0;have hns58_0:=NB216_218.out;have hns58_1:=NB217_218.out;have hns58_3:=NB228_218.out;have hns58_4:=NB229_218.out;have hns58_5:=NB230_218.out;have hms58_0:=NB218_216.out;have hms58_1:=NB218_217.out;have hms58_3:=NB218_228.out;have hms58_4:=NB218_229.out;have hms58_5:=NB218_230.out;have hs59:w57.cell? ⟨gb218,1,none⟩=some (.int .i64 x219001_7):=(blk_cell BK218.out 1).trans rfl;have hfs59:=blk_frozen BK218.out 1;have hns59_0:=NB216_218.out;have hns59_1:=NB217_218.out;have hns59_3:=NB228_218.out;have hns59_4:=NB229_218.out;have hns59_5:=NB230_218.out;have hms59_0:=NB218_216.out;have hms59_1:=NB218_217.out;have hms59_3:=NB218_228.out;have hms59_4:=NB218_229.out;have hms59_5:=NB218_230.out;have hs60:w57.cell? ⟨gb218,2,none⟩=some (.int .i64 x219002_7):=(blk_cell BK218.out 2).trans rfl;have hfs60:=blk_frozen BK218.out 2;have hns60_0:=NB216_218.out;have hns60_1:=NB217_218.out;have hns60_3:=NB228_218.out;have hns60_4:=NB229_218.out;have hns60_5:=NB230_218.out;have hms60_0:=NB218_216.out;have hms60_1:=NB218_217.out;have hms60_3:=NB218_228.out;have hms60_4:=NB218_229.out;have hms60_5:=NB218_230.out;have hs61:w57.cell? ⟨gb218,3,none⟩=some (.int .i64 x219003_7):=(blk_cell BK218.out 3).trans rfl;have hfs61:=blk_frozen BK218.out 3;have hns61_0:=NB216_218.out;have hns61_1:=NB217_218.out;have hns61_3:=NB228_218.out;have hns61_4:=NB229_218.out;have hns61_5:=NB230_218.out;have hms61_0:=NB218_216.out;have hms61_1:=NB218_217.out;have hms61_3:=NB218_228.out;have hms61_4:=NB218_229.out;have hms61_5:=NB218_230.out
  refine skip_ (w1:=?_) (by rfl) rfl ?_ ?_
  rotate_left
  ·go_simp
   rfl
  refine hK.out _ _ ⟨((cell_far (p:=⟨gb218,_,none⟩) NB216_218.out _).trans (((cell_far (p:=⟨gb218,_,none⟩) NB216_218.out _).trans (((cell_far (p:=⟨gb218,_,none⟩) NB216_218.out _).trans (((cell_far (p:=⟨gb218,_,none⟩) NB216_218.out _).trans (hHeld.1)))))))),((cell_far (p:=⟨gb218,_,none⟩) NB216_218.out _).trans (((cell_far (p:=⟨gb218,_,none⟩) NB216_218.out _).trans (((cell_far (p:=⟨gb218,_,none⟩) NB216_218.out _).trans (((cell_far (p:=⟨gb218,_,none⟩) NB216_218.out _).trans (hHeld.2.1)))))))),((cell_far (p:=⟨gb218,_,none⟩) NB216_218.out _).trans (((cell_far (p:=⟨gb218,_,none⟩) NB216_218.out _).trans (((cell_far (p:=⟨gb218,_,none⟩) NB216_218.out _).trans (((cell_far (p:=⟨gb218,_,none⟩) NB216_218.out _).trans (hHeld.2.2.1)))))))),((cell_far (p:=⟨gb218,_,none⟩) NB216_218.out _).trans (((cell_far (p:=⟨gb218,_,none⟩) NB216_218.out _).trans (((cell_far (p:=⟨gb218,_,none⟩) NB216_218.out _).trans (((cell_far (p:=⟨gb218,_,none⟩) NB216_218.out _).trans (hHeld.2.2.2.1)))))))),((cell_far (p:=⟨gb218,_,none⟩) NB217_218.out _).trans (((cell_far (p:=⟨gb218,_,none⟩) NB217_218.out _).trans (((cell_far (p:=⟨gb218,_,none⟩) NB217_218.out _).trans (((cell_far (p:=⟨gb218,_,none⟩) NB217_218.out _).trans (hHeld.2.2.2.2.1)))))))),((cell_far (p:=⟨gb218,_,none⟩) NB217_218.out _).trans (((cell_far (p:=⟨gb218,_,none⟩) NB217_218.out _).trans (((cell_far (p:=⟨gb218,_,none⟩) NB217_218.out _).trans (((cell_far (p:=⟨gb218,_,none⟩) NB217_218.out _).trans (hHeld.2.2.2.2.2.1)))))))),((cell_far (p:=⟨gb218,_,none⟩) NB217_218.out _).trans (((cell_far (p:=⟨gb218,_,none⟩) NB217_218.out _).trans (((cell_far (p:=⟨gb218,_,none⟩) NB217_218.out _).trans (((cell_far (p:=⟨gb218,_,none⟩) NB217_218.out _).trans (hHeld.2.2.2.2.2.2.1)))))))),((cell_far (p:=⟨gb218,_,none⟩) NB217_218.out _).trans (((cell_far (p:=⟨gb218,_,none⟩) NB217_218.out _).trans (((cell_far (p:=⟨gb218,_,none⟩) NB217_218.out _).trans (((cell_far (p:=⟨gb218,_,none⟩) NB217_218.out _).trans (hHeld.2.2.2.2.2.2.2))))))))⟩ (fun hHeld=>?_)
  clear hK K
  refine done_ (done_of HT_.out (by kernel_rfl)) ?_
  try go_wp2
  refine bodyPost_ret (results_cell_row rfl _ _ gb218 38 #[.int .i64 t232,.int .i64 t233,.int .i64 t234,.int .i64 t231] (0,0) _ rfl (by (with_reducible repeat first|apply bN_|apply bD_|apply bA_);refine blk_put (cs:=#[.int .i64 t232,.int .i64 t233,.int .i64 t234,.int .i64 x219003_7]) ?_ 3 _ rfl;(with_reducible repeat first|apply bN_|apply bD_|apply bA_);refine blk_put (cs:=#[.int .i64 t232,.int .i64 t233,.int .i64 x219002_7,.int .i64 x219003_7]) ?_ 2 _ rfl;(with_reducible repeat first|apply bN_|apply bD_|apply bA_);refine blk_put (cs:=#[.int .i64 t232,.int .i64 x219001_7,.int .i64 x219002_7,.int .i64 x219003_7]) ?_ 1 _ rfl;(with_reducible repeat first|apply bN_|apply bD_|apply bA_);refine blk_put (cs:=#[.int .i64 x219000_7,.int .i64 x219001_7,.int .i64 x219002_7,.int .i64 x219003_7]) ?_ 0 _ rfl;(with_reducible repeat first|apply bN_|apply bD_|apply bA_);exact BK218.out) Try.underlying38 rfl (by kernel_rfl)) rfl ?_
  exact ⟨by first|rfl|(simp [errW_none,errW_some] <;> rfl)|(simp [*,errW_none,errW_some] <;> rfl),by repeat first|(with_reducible first|exact HB.out|apply lA_|apply lN_|apply lD_|refine lS_ ?_ GE216.out|refine lS_ ?_ GE217.out|refine lS_ ?_ GE218.out|refine lS_ ?_ GE228.out|refine lS_ ?_ GE229.out|refine lS_ ?_ GE230.out)|exact HB.out⟩

end Go.Proofs.Ytmlcobnidfkhfaa.Q
