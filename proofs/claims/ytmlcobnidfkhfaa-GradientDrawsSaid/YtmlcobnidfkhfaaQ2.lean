/- Each Go function of the law as a Lean function, with the proof that its call comes to just that, for every input; written by hp.py, a program of this session over the kit own print of the translation. -/
import Derived.Test.YtmlcobnidfkhfaaQ0
import Derived.Test.YtmlcobnidfkhfaaQ1
namespace Go.Proofs.Ytmlcobnidfkhfaa.Q
open Go.RowKit Go.Proofs.YtmlcobnidfkhfaaW.PrintWords Go.Proofs.YtmlcobnidfkhfaaW.PrintLast Go.Proofs.YtmlcobnidfkhfaaW.PrintMore
attribute [local go_sem] max2_int min2_int max_two min_two max_three min_three max_four min_four   -- for this text's walks alone
set_option linter.unusedVariables false
set_option linter.unusedSimpArgs false
open Go.Proofs.Ytmlcobnidfkhfaa.Clo Go.Proofs.Ytmlcobnidfkhfaa.Mk0

attribute [local go_sem high] eqA38
/-! ### r01_Clamp: function 36 -/
def r01_Clamp.f (a0:Int) (a1:Int) (a2:Int):Option (Int):=some (mn a2 (mx a0 a1))
set_option maxHeartbeats 8000000 in
set_option maxRecDepth 100000 in
theorem r01_Clamp.calls (a0:Int) (a1:Int) (a2:Int) (r:Int) (w:World) (h:r01_Clamp.f a0 a1 a2=some r) :
  Calls Try.prog 36 #[.int .i64 a0,.int .i64 a1,.int .i64 a2] w fun e w'=>e = .returned (.int .i64 r)∧Below w.heap.size w w':=by
 have HB:=Aside0.mk (Below.refl w.heap.size w);have H:(some (mn a2 (mx a0 a1)))=some r:=h;clear h;obtain ⟨ji4,hji4⟩:∃ j_:Int,(mx a0 a1)=j_:=⟨_,rfl⟩
 replace H:(some (mn a2 (ji4)))=some r:=by first|(rw [hji4] at H;exact H)|(simp only [hji4] at H ⊢;exact H)
 have hji4_:(if a0<a1 then a1 else a0)=ji4:=hji4
 obtain ⟨ji5,hji5⟩:∃ j_:Int,(mn a2 (ji4))=j_:=⟨_,rfl⟩
 replace H:(some ji5)=some r:=by first|(rw [hji5] at H;exact H)|(simp only [hji5] at H ⊢;exact H)
 have hji5_:(if (ji4)<a2 then (ji4) else a2)=ji5:=hji5
 obtain rfl:=Option.some.inj H
 go_enter Try.func36,Try.ntmps36
 go_wp2
 go_ret
 exact ⟨by first|rfl|(simp [errW_none,errW_some] <;> rfl)|(simp only [← hji4,← hji5];first|rfl|(simp [errW_none,errW_some] <;> rfl))|(simp [*,errW_none,errW_some] <;> rfl),by repeat first|(with_reducible first|exact HB.out|apply lA_|apply lN_|apply lD_)|exact HB.out⟩

/-! ### r06_U: function 32 -/
def r06_U.f (a0:Int):Option (Int):=(r01_Clamp.f a0 0 65535).bind fun t101=>(some t101)
set_option maxHeartbeats 8000000 in
set_option maxRecDepth 100000 in
theorem r06_U.calls (a0:Int) (r:Int) (w:World) (h:r06_U.f a0=some r) :
  Calls Try.prog 32 #[.int .i64 a0] w fun e w'=>e = .returned (.int .i64 r)∧Below w.heap.size w w':=by
 have HB:=Aside0.mk (Below.refl w.heap.size w)
 have H:((r01_Clamp.f a0 0 65535).bind fun t101=>(some t101))=some r:=h
 clear h;replace H:=Option.bind_eq_some_iff.mp H;obtain ⟨t101,A20,H⟩:=H;replace H:(some t101)=some r:=H;have A2:=Aside0.mk A20;clear A20;obtain rfl:=Option.some.inj H
 go_enter Try.func32,Try.ntmps32
 go_wp2_with (first|((with_reducible refine gate_callee (f:=36) rfl ?_);refine goesL_ (some 4) rfl rfl Try.func36 (by kernel_rfl) rfl #[.int .i64 a0,.int .i64 0,.int .i64 65535] rfl (by (try simp only [mA_,mC_,mN_]);first|done|rfl|(simp only [dL_,kL_];rfl)) ?_;(with_reducible refine (r01_Clamp.calls a0 0 65535 t101 _ A2.out).mono ?_);rintro e w3 ⟨rfl,hb⟩;refine ⟨_,rfl,?_⟩;have n0_:=Aside0.mk (below_step (by repeat first|(with_reducible first|exact HB.out|apply lA_|apply lN_|apply lD_)|exact HB.out) hb);clear HB;have HB:=n0_;clear n0_;(try clear hb);(try clear hb2);(try clear hk);(try clear hi)))
 go_ret
 exact ⟨by first|rfl|(simp [errW_none,errW_some] <;> rfl)|(simp [*,errW_none,errW_some] <;> rfl),by repeat first|(with_reducible first|exact HB.out|apply lA_|apply lN_|apply lD_)|exact HB.out⟩

/-! ### r06_Limit: function 48 -/
def r06_Limit.f (a0_0:Int) (a0_1:Int) (a0_2:Int) (a0_3:Int):Option (Int × Int × Int × Int):=(r06_U.f a0_0).bind fun t104=>((r06_U.f a0_1).bind fun t105=>((r06_U.f a0_2).bind fun t106=>((r06_U.f a0_3).bind fun t107=>(some (t104,t105,t106,t107)))))
def r06_Limit.T1:Bool × List (List Nat × List Nat):=(true,[([],[]),([0],[0]),([1],[1]),([],[]),([3],[3]),([4,2],[4]),([],[]),([6],[6]),([7,5],[7]),([],[]),([9],[9]),([10,8],[10]),([2,5,8,11],[2,5,8,11]),([12,11,0,1,2,3,4,5,6,7,8,9,10,11,12],[12])])
def r06_Limit.B1:List Nat:=[0,1,3,0,8,31,0,64,255,0,512,2047,4095,8191]
theorem r06_Limit.tab1:rtab .any (opsOf Try.f48 1)=r06_Limit.T1:=by kernel_rfl
theorem r06_Limit.bits1:waitsOk r06_Limit.T1.2 r06_Limit.B1=true:=by kernel_rfl
set_option maxHeartbeats 8000000 in
set_option maxRecDepth 100000 in
theorem r06_Limit.calls (a0_0:Int) (a0_1:Int) (a0_2:Int) (a0_3:Int) (r1:Int) (r2:Int) (r3:Int) (r4:Int) (w:World) (h:r06_Limit.f a0_0 a0_1 a0_2 a0_3=some (r1,r2,r3,r4)) :
  Calls Try.prog 48 #[.agg #[.int .i64 a0_0,.int .i64 a0_1,.int .i64 a0_2,.int .i64 a0_3]] w fun e w'=>e = .returned (.agg #[.int .i64 r1,.int .i64 r2,.int .i64 r3,.int .i64 r4])∧Below w.heap.size w w':=by
 have hu38:=Try.underlying38;have HB:=Aside0.mk (Below.refl w.heap.size w)
 have H:((r06_U.f a0_0).bind fun t104=>((r06_U.f a0_1).bind fun t105=>((r06_U.f a0_2).bind fun t106=>((r06_U.f a0_3).bind fun t107=>(some (t104,t105,t106,t107))))))=some (r1,r2,r3,r4):=h
 clear h;replace H:=Option.bind_eq_some_iff.mp H;obtain ⟨t104,A20,H⟩:=H
 replace H:((r06_U.f a0_1).bind fun t105=>((r06_U.f a0_2).bind fun t106=>((r06_U.f a0_3).bind fun t107=>(some (t104,t105,t106,t107)))))=some (r1,r2,r3,r4):=H
 have A2:=Aside0.mk A20;clear A20;replace H:=Option.bind_eq_some_iff.mp H;obtain ⟨t105,A30,H⟩:=H
 replace H:((r06_U.f a0_2).bind fun t106=>((r06_U.f a0_3).bind fun t107=>(some (t104,t105,t106,t107))))=some (r1,r2,r3,r4):=H
 have A3:=Aside0.mk A30;clear A30;replace H:=Option.bind_eq_some_iff.mp H;obtain ⟨t106,A40,H⟩:=H
 replace H:((r06_U.f a0_3).bind fun t107=>(some (t104,t105,t106,t107)))=some (r1,r2,r3,r4):=H
 have A4:=Aside0.mk A40;clear A40;replace H:=Option.bind_eq_some_iff.mp H;obtain ⟨t107,A50,H⟩:=H;replace H:(some (t104,t105,t106,t107))=some (r1,r2,r3,r4):=H;have A5:=Aside0.mk A50;clear A50;simp only [Option.some.injEq,Prod.mk.injEq] at H;obtain ⟨rfl,rfl,rfl,rfl⟩:=H
 go_enter Try.func48,Try.ntmps48
 try go_wp2_with (first|((with_reducible refine gate_dst (N:=1) rfl ?_);refine box_event ?hg (N:=1) ?hd (cs:=#[.int .i64 a0_0,.int .i64 a0_1,.int .i64 a0_2,.int .i64 a0_3]) (t:=38) ?hr ?_;(case hd=>rfl);(case hg=>rfl);(case hr=>first|(go_simp;done)|(go_simp;rfl));intro gb102 hg w6 hbox hb;have n0_:=Aside0.mk (below_step (by repeat first|(with_reducible first|exact HB.out|apply lA_|apply lN_|apply lD_)|exact HB.out) hb);have n1_:=Aside0.mk (hbox);have n2_:=Aside0.mk ((by rw [hg];exact (below_size (by repeat first|(with_reducible first|exact HB.out|apply lA_|apply lN_|apply lD_)|exact HB.out)):w.heap.size≤gb102));have n3_:=Aside0.mk ((by rw [hg];exact (below_size (by repeat first|(with_reducible first|exact HB.out|apply lA_|apply lN_|apply lD_)|exact HB.out)):w.heap.size≤gb102));clear HB;have HB:=n0_;have BK102:=n1_;have GW102:=n2_;have GE102:=n3_;clear n0_ n1_ n2_ n3_;clear hb hbox hg)|((with_reducible refine gate_dst (N:=2) rfl ?_);refine box_event ?hg (N:=2) ?hd (cs:=#[.int .i64 0,.int .i64 0,.int .i64 0,.int .i64 0]) (t:=38) ?hr ?_;(case hd=>rfl);(case hg=>rfl);(case hr=>first|(go_simp;done)|(go_simp;rfl));intro gb103 hg w7 hbox hb;have n0_:=Aside0.mk (blk_below (by (with_reducible repeat first|apply bN_|apply bD_|apply bA_);exact BK102.out) hb);have n1_:=Aside0.mk (below_step (by repeat first|(with_reducible first|exact HB.out|apply lA_|apply lN_|apply lD_|refine lS_ ?_ GE102.out)|exact HB.out) hb);have n2_:=Aside0.mk (hbox);have n3_:=Aside0.mk ((by rw [hg];exact (below_size (by repeat first|(with_reducible first|exact HB.out|apply lA_|apply lN_|apply lD_|refine lS_ ?_ GE102.out)|exact HB.out)):w.heap.size≤gb103));have n4_:=Aside0.mk ((by rw [hg];exact (below_size (by repeat first|(with_reducible first|exact HB.out|apply lA_|apply lN_|apply lD_|refine lS_ ?_ GE102.out)|exact HB.out)):w.heap.size≤gb103));have n5_:=Aside0.mk ((by rw [hg];exact Nat.ne_of_lt (blk_lt (g:=gb102) (o:=.cells #[.int .i64 a0_0,.int .i64 a0_1,.int .i64 a0_2,.int .i64 a0_3] 38 (0,0)) (by (with_reducible repeat first|apply bN_|apply bD_|apply bA_);exact BK102.out)):gb102 ≠ gb103));have n6_:=Aside0.mk ((by rw [hg];exact Nat.ne_of_gt (blk_lt (g:=gb102) (o:=.cells #[.int .i64 a0_0,.int .i64 a0_1,.int .i64 a0_2,.int .i64 a0_3] 38 (0,0)) (by (with_reducible repeat first|apply bN_|apply bD_|apply bA_);exact BK102.out)):gb103 ≠ gb102));clear BK102;clear HB;have BK102:=n0_;have HB:=n1_;have BK103:=n2_;have GW103:=n3_;have GE103:=n4_;have NB102_103:=n5_;have NB103_102:=n6_;clear n0_ n1_ n2_ n3_ n4_ n5_ n6_;clear hb hbox hg))
 have n0_:=Aside0.mk (blk_drew BK102.out);have n1_:=Aside0.mk (blk_drew BK103.out);have n2_:=Aside0.mk (below_drew1 HB.out);clear BK102;clear BK103;clear HB;have BK102:=n0_;have BK103:=n1_;have HB:=n2_;clear n0_ n1_ n2_
 refine start_ (n:=14) (S:=fun w'=>w'.cell? ⟨gb102,0,none⟩=some (.int .i64 a0_0)∧w'.cell? ⟨gb102,1,none⟩=some (.int .i64 a0_1)∧w'.cell? ⟨gb102,2,none⟩=some (.int .i64 a0_2)∧w'.cell? ⟨gb102,3,none⟩=some (.int .i64 a0_3)) (ds:=[]) #[F_,F_,F_,F_,F_,F_,F_,F_,F_,F_,F_,F_,F_,F_] (by kernel_rfl) rfl rfl ⟨(blk_cell BK102.out 0).trans rfl,(blk_cell BK102.out 1).trans rfl,(blk_cell BK102.out 2).trans rfl,(blk_cell BK102.out 3).trans rfl⟩ (fun hHeld=>?_);refine with_tabW r06_Limit.tab1 r06_Limit.bits1 (fun HT_ HW_=>?_)
 generalize w7.drew=w8 at BK102 BK103 HB hHeld ⊢
 refine pure_ (i:=0) (N:=some 3) (v:=?_) (a':=?_) #[T_,F_,F_,F_,F_,F_,F_,F_,F_,F_,F_,F_,F_,F_] rfl rfl (any_of HT_.out (by kernel_rfl)) (fun _ _ _ h=>h) (Or.inl ⟨by rfl,?_⟩) ?_ ?_
 rotate_left
 ·intro w'
  go_simp
  with_reducible rfl
 rotate_left
 ·simp only [Act.put,tS_,tZ_,tC_,i64_w,i32_w]
  rfl
 refine pure_ (i:=3) (N:=some 6) (v:=?_) (a':=?_) #[T_,F_,F_,T_,F_,F_,F_,F_,F_,F_,F_,F_,F_,F_] rfl rfl (any_of HT_.out (by kernel_rfl)) (fun _ _ _ h=>h) (Or.inl ⟨by rfl,?_⟩) ?_ ?_
 rotate_left
 ·intro w'
  go_simp
  with_reducible rfl
 rotate_left
 ·simp only [Act.put,tS_,tZ_,tC_,i64_w,i32_w]
  rfl
 refine pure_ (i:=6) (N:=some 9) (v:=?_) (a':=?_) #[T_,F_,F_,T_,F_,F_,T_,F_,F_,F_,F_,F_,F_,F_] rfl rfl (any_of HT_.out (by kernel_rfl)) (fun _ _ _ h=>h) (Or.inl ⟨by rfl,?_⟩) ?_ ?_
 rotate_left
 ·intro w'
  go_simp
  with_reducible rfl
 rotate_left
 ·simp only [Act.put,tS_,tZ_,tC_,i64_w,i32_w]
  rfl
 refine pure_ (i:=9) (N:=some 12) (v:=?_) (a':=?_) #[T_,F_,F_,T_,F_,F_,T_,F_,F_,T_,F_,F_,F_,F_] rfl rfl (any_of HT_.out (by kernel_rfl)) (fun _ _ _ h=>h) (Or.inl ⟨by rfl,?_⟩) ?_ ?_
 rotate_left
 ·intro w'
  go_simp
  with_reducible rfl
 rotate_left
 ·simp only [Act.put,tS_,tZ_,tC_,i64_w,i32_w]
  rfl
 refine take_ (i:=1) (N:=some 4) (v:=?_) (a':=?_) #[T_,T_,F_,T_,F_,F_,T_,F_,F_,T_,F_,F_,F_,F_] rfl rfl (take_ofW HT_.out HW_.out (by kernel_rfl)) (fun _ _ _ h=>h) (Or.inl ⟨by rfl,?_⟩) hHeld ?_ ?_
 rotate_left
 ·rintro w' ⟨s0,s1,s2,s3⟩
  go_simp
  with_reducible rfl
 rotate_left
 ·simp only [Act.put,tS_,tZ_,tC_,i64_w,i32_w]
  rfl
 refine take_ (i:=4) (N:=some 7) (v:=?_) (a':=?_) #[T_,T_,F_,T_,T_,F_,T_,F_,F_,T_,F_,F_,F_,F_] rfl rfl (take_ofW HT_.out HW_.out (by kernel_rfl)) (fun _ _ _ h=>h) (Or.inl ⟨by rfl,?_⟩) hHeld ?_ ?_
 rotate_left
 ·rintro w' ⟨s0,s1,s2,s3⟩
  go_simp
  with_reducible rfl
 rotate_left
 ·simp only [Act.put,tS_,tZ_,tC_,i64_w,i32_w]
  rfl
 refine take_ (i:=7) (N:=some 10) (v:=?_) (a':=?_) #[T_,T_,F_,T_,T_,F_,T_,T_,F_,T_,F_,F_,F_,F_] rfl rfl (take_ofW HT_.out HW_.out (by kernel_rfl)) (fun _ _ _ h=>h) (Or.inl ⟨by rfl,?_⟩) hHeld ?_ ?_
 rotate_left
 ·rintro w' ⟨s0,s1,s2,s3⟩
  go_simp
  with_reducible rfl
 rotate_left
 ·simp only [Act.put,tS_,tZ_,tC_,i64_w,i32_w]
  rfl
 refine take_ (i:=10) (N:=some 13) (v:=?_) (a':=?_) #[T_,T_,F_,T_,T_,F_,T_,T_,F_,T_,T_,F_,F_,F_] rfl rfl (take_ofW HT_.out HW_.out (by kernel_rfl)) (fun _ _ _ h=>h) (Or.inl ⟨by rfl,?_⟩) hHeld ?_ ?_
 rotate_left
 ·rintro w' ⟨s0,s1,s2,s3⟩
  go_simp
  with_reducible rfl
 rotate_left
 ·simp only [Act.put,tS_,tZ_,tC_,i64_w,i32_w]
  rfl
 refine one_ (i:=2) (N:=some 5) #[T_,T_,T_,T_,T_,F_,T_,T_,F_,T_,T_,F_,F_,F_] rfl rfl (one_of HT_.out (by kernel_rfl)) (by decide) (fun K hK=>?_)
 refine goes_ Try.func32 (by kernel_rfl) rfl #[.int .i64 a0_0] (by rfl) rfl rfl (by (try simp only [mA_,mC_,mN_]);first|done|rfl|(simp only [dL_,kL_];rfl)) ?_
 with_reducible refine (r06_U.calls a0_0 t104 _ A2.out).mono ?_
 rintro e w9 ⟨rfl,hb⟩;refine ⟨_,rfl,?_⟩
 have n0_:=Aside0.mk (blk_below (by (with_reducible repeat first|apply bN_|apply bD_|apply bA_);exact BK102.out) hb)
 have n1_:=Aside0.mk (blk_below (by (with_reducible repeat first|apply bN_|apply bD_|apply bA_);exact BK103.out) hb)
 have n2_:=Aside0.mk (below_step (by repeat first|(with_reducible first|exact HB.out|apply lA_|apply lN_|apply lD_|refine lS_ ?_ GE102.out|refine lS_ ?_ GE103.out)|exact HB.out) hb)
 clear BK102;clear BK103;clear HB;have BK102:=n0_;have BK103:=n1_;have HB:=n2_;clear n0_ n1_ n2_
 (try clear hb)
 (try clear hb2)
 (try clear hk)
 (try clear hi)
 refine hK.out _ _ ⟨(blk_cell BK102.out 0).trans rfl,(blk_cell BK102.out 1).trans rfl,(blk_cell BK102.out 2).trans rfl,(blk_cell BK102.out 3).trans rfl⟩ (fun hHeld=>?_)
 clear hK K;refine norm_ (a':=?_) ?_ ?_;rotate_left
 ·show Act.put _ (some 5) _=_
  simp only [Act.put,tS_,tZ_,tC_,i64_w,i32_w];rfl
 refine one_ (i:=5) (N:=some 8) #[T_,T_,T_,T_,T_,T_,T_,T_,F_,T_,T_,F_,F_,F_] rfl rfl (one_of HT_.out (by kernel_rfl)) (by decide) (fun K hK=>?_)
 refine goes_ Try.func32 (by kernel_rfl) rfl #[.int .i64 a0_1] (by rfl) rfl rfl (by (try simp only [mA_,mC_,mN_]);first|done|rfl|(simp only [dL_,kL_];rfl)) ?_
 with_reducible refine (r06_U.calls a0_1 t105 _ A3.out).mono ?_
 rintro e w10 ⟨rfl,hb⟩;refine ⟨_,rfl,?_⟩
 have n0_:=Aside0.mk (blk_below (by (with_reducible repeat first|apply bN_|apply bD_|apply bA_);exact BK102.out) hb)
 have n1_:=Aside0.mk (blk_below (by (with_reducible repeat first|apply bN_|apply bD_|apply bA_);exact BK103.out) hb)
 have n2_:=Aside0.mk (below_step (by repeat first|(with_reducible first|exact HB.out|apply lA_|apply lN_|apply lD_|refine lS_ ?_ GE102.out|refine lS_ ?_ GE103.out)|exact HB.out) hb)
 clear BK102;clear BK103;clear HB;have BK102:=n0_;have BK103:=n1_;have HB:=n2_;clear n0_ n1_ n2_
 (try clear hb)
 (try clear hb2)
 (try clear hk)
 (try clear hi)
 refine hK.out _ _ ⟨(blk_cell BK102.out 0).trans rfl,(blk_cell BK102.out 1).trans rfl,(blk_cell BK102.out 2).trans rfl,(blk_cell BK102.out 3).trans rfl⟩ (fun hHeld=>?_)
 clear hK K;refine norm_ (a':=?_) ?_ ?_;rotate_left
 ·show Act.put _ (some 8) _=_
  simp only [Act.put,tS_,tZ_,tC_,i64_w,i32_w];rfl
 refine one_ (i:=8) (N:=some 11) #[T_,T_,T_,T_,T_,T_,T_,T_,T_,T_,T_,F_,F_,F_] rfl rfl (one_of HT_.out (by kernel_rfl)) (by decide) (fun K hK=>?_)
 refine goes_ Try.func32 (by kernel_rfl) rfl #[.int .i64 a0_2] (by rfl) rfl rfl (by (try simp only [mA_,mC_,mN_]);first|done|rfl|(simp only [dL_,kL_];rfl)) ?_
 with_reducible refine (r06_U.calls a0_2 t106 _ A4.out).mono ?_
 rintro e w11 ⟨rfl,hb⟩;refine ⟨_,rfl,?_⟩
 have n0_:=Aside0.mk (blk_below (by (with_reducible repeat first|apply bN_|apply bD_|apply bA_);exact BK102.out) hb)
 have n1_:=Aside0.mk (blk_below (by (with_reducible repeat first|apply bN_|apply bD_|apply bA_);exact BK103.out) hb)
 have n2_:=Aside0.mk (below_step (by repeat first|(with_reducible first|exact HB.out|apply lA_|apply lN_|apply lD_|refine lS_ ?_ GE102.out|refine lS_ ?_ GE103.out)|exact HB.out) hb)
 clear BK102;clear BK103;clear HB;have BK102:=n0_;have BK103:=n1_;have HB:=n2_;clear n0_ n1_ n2_
 (try clear hb)
 (try clear hb2)
 (try clear hk)
 (try clear hi)
 refine hK.out _ _ ⟨(blk_cell BK102.out 0).trans rfl,(blk_cell BK102.out 1).trans rfl,(blk_cell BK102.out 2).trans rfl,(blk_cell BK102.out 3).trans rfl⟩ (fun hHeld=>?_)
 clear hK K;refine norm_ (a':=?_) ?_ ?_;rotate_left
 ·show Act.put _ (some 11) _=_
  simp only [Act.put,tS_,tZ_,tC_,i64_w,i32_w];rfl
 refine one_ (i:=11) (N:=some 14) #[T_,T_,T_,T_,T_,T_,T_,T_,T_,T_,T_,T_,F_,F_] rfl rfl (one_of HT_.out (by kernel_rfl)) (by decide) (fun K hK=>?_)
 refine goes_ Try.func32 (by kernel_rfl) rfl #[.int .i64 a0_3] (by rfl) rfl rfl (by (try simp only [mA_,mC_,mN_]);first|done|rfl|(simp only [dL_,kL_];rfl)) ?_
 with_reducible refine (r06_U.calls a0_3 t107 _ A5.out).mono ?_
 rintro e w12 ⟨rfl,hb⟩;refine ⟨_,rfl,?_⟩
 have n0_:=Aside0.mk (blk_below (by (with_reducible repeat first|apply bN_|apply bD_|apply bA_);exact BK102.out) hb)
 have n1_:=Aside0.mk (blk_below (by (with_reducible repeat first|apply bN_|apply bD_|apply bA_);exact BK103.out) hb)
 have n2_:=Aside0.mk (below_step (by repeat first|(with_reducible first|exact HB.out|apply lA_|apply lN_|apply lD_|refine lS_ ?_ GE102.out|refine lS_ ?_ GE103.out)|exact HB.out) hb)
 clear BK102;clear BK103;clear HB;have BK102:=n0_;have BK103:=n1_;have HB:=n2_;clear n0_ n1_ n2_
 (try clear hb)
 (try clear hb2)
 (try clear hk)
 (try clear hi)
 refine hK.out _ _ ⟨(blk_cell BK102.out 0).trans rfl,(blk_cell BK102.out 1).trans rfl,(blk_cell BK102.out 2).trans rfl,(blk_cell BK102.out 3).trans rfl⟩ (fun hHeld=>?_)
 clear hK K;refine norm_ (a':=?_) ?_ ?_;rotate_left
 ·show Act.put _ (some 14) _=_
  simp only [Act.put,tS_,tZ_,tC_,i64_w,i32_w];rfl
 refine pure_ (i:=12) (N:=some 15) (v:=?_) (a':=?_) #[T_,T_,T_,T_,T_,T_,T_,T_,T_,T_,T_,T_,T_,F_] rfl rfl (any_of HT_.out (by kernel_rfl)) (fun _ _ _ h=>h) (Or.inl ⟨by rfl,?_⟩) ?_ ?_
 rotate_left
 ·intro w'
  go_simp
  with_reducible rfl
 rotate_left
 ·simp only [Act.put,tS_,tZ_,tC_,i64_w,i32_w]
  rfl
 refine one_ (i:=13) (N:=none) #[T_,T_,T_,T_,T_,T_,T_,T_,T_,T_,T_,T_,T_,T_] rfl rfl (one_of HT_.out (by kernel_rfl)) (by decide) (fun K hK=>?_)
 have hs13:w12.cell? ⟨gb103,0,none⟩=some (.int .i64 0):=(blk_cell BK103.out 0).trans rfl;have hfs13:=blk_frozen BK103.out 0;have hns13_0:=NB102_103.out;have hms13_0:=NB103_102.out;have hs14:w12.cell? ⟨gb103,1,none⟩=some (.int .i64 0):=(blk_cell BK103.out 1).trans rfl;have hfs14:=blk_frozen BK103.out 1;have hns14_0:=NB102_103.out;have hms14_0:=NB103_102.out;have hs15:w12.cell? ⟨gb103,2,none⟩=some (.int .i64 0):=(blk_cell BK103.out 2).trans rfl;have hfs15:=blk_frozen BK103.out 2;have hns15_0:=NB102_103.out;have hms15_0:=NB103_102.out;have hs16:w12.cell? ⟨gb103,3,none⟩=some (.int .i64 0):=(blk_cell BK103.out 3).trans rfl;have hfs16:=blk_frozen BK103.out 3;have hns16_0:=NB102_103.out;have hms16_0:=NB103_102.out
 refine skip_ (w1:=?_) (by rfl) rfl ?_ ?_
 rotate_left
 ·go_simp
  rfl
 refine hK.out _ _ ⟨((cell_far (p:=⟨gb103,_,none⟩) NB102_103.out _).trans (((cell_far (p:=⟨gb103,_,none⟩) NB102_103.out _).trans (((cell_far (p:=⟨gb103,_,none⟩) NB102_103.out _).trans (((cell_far (p:=⟨gb103,_,none⟩) NB102_103.out _).trans (hHeld.1)))))))),((cell_far (p:=⟨gb103,_,none⟩) NB102_103.out _).trans (((cell_far (p:=⟨gb103,_,none⟩) NB102_103.out _).trans (((cell_far (p:=⟨gb103,_,none⟩) NB102_103.out _).trans (((cell_far (p:=⟨gb103,_,none⟩) NB102_103.out _).trans (hHeld.2.1)))))))),((cell_far (p:=⟨gb103,_,none⟩) NB102_103.out _).trans (((cell_far (p:=⟨gb103,_,none⟩) NB102_103.out _).trans (((cell_far (p:=⟨gb103,_,none⟩) NB102_103.out _).trans (((cell_far (p:=⟨gb103,_,none⟩) NB102_103.out _).trans (hHeld.2.2.1)))))))),((cell_far (p:=⟨gb103,_,none⟩) NB102_103.out _).trans (((cell_far (p:=⟨gb103,_,none⟩) NB102_103.out _).trans (((cell_far (p:=⟨gb103,_,none⟩) NB102_103.out _).trans (((cell_far (p:=⟨gb103,_,none⟩) NB102_103.out _).trans (hHeld.2.2.2))))))))⟩ (fun hHeld=>?_)
 clear hK K
 refine done_ (done_of HT_.out (by kernel_rfl)) ?_
 try go_wp2
 refine bodyPost_ret (results_cell_row rfl _ _ gb103 38 #[.int .i64 t104,.int .i64 t105,.int .i64 t106,.int .i64 t107] (0,0) _ rfl (by (with_reducible repeat first|apply bN_|apply bD_|apply bA_);refine blk_put (cs:=#[.int .i64 t104,.int .i64 t105,.int .i64 t106,.int .i64 0]) ?_ 3 _ rfl;(with_reducible repeat first|apply bN_|apply bD_|apply bA_);refine blk_put (cs:=#[.int .i64 t104,.int .i64 t105,.int .i64 0,.int .i64 0]) ?_ 2 _ rfl;(with_reducible repeat first|apply bN_|apply bD_|apply bA_);refine blk_put (cs:=#[.int .i64 t104,.int .i64 0,.int .i64 0,.int .i64 0]) ?_ 1 _ rfl;(with_reducible repeat first|apply bN_|apply bD_|apply bA_);refine blk_put (cs:=#[.int .i64 0,.int .i64 0,.int .i64 0,.int .i64 0]) ?_ 0 _ rfl;(with_reducible repeat first|apply bN_|apply bD_|apply bA_);exact BK103.out) Try.underlying38 rfl (by kernel_rfl)) rfl ?_
 exact ⟨by first|rfl|(simp [errW_none,errW_some] <;> rfl)|(simp [*,errW_none,errW_some] <;> rfl),by repeat first|(with_reducible first|exact HB.out|apply lA_|apply lN_|apply lD_|refine lS_ ?_ GE102.out|refine lS_ ?_ GE103.out)|exact HB.out⟩

/-! ### r06_Valid: function 40 -/
def r06_Valid.f (a0_0:Int) (a0_1:Int) (a0_2:Int) (a0_3:Int):Option (Bool):=(r06_Limit.f a0_0 a0_1 a0_2 a0_3).bind fun bt109=>(some (bt109.1==a0_0&&(bt109.2.1==a0_1&&(bt109.2.2.1==a0_2&&(bt109.2.2.2==a0_3)))))
set_option maxHeartbeats 8000000 in
set_option maxRecDepth 100000 in
theorem r06_Valid.calls (a0_0:Int) (a0_1:Int) (a0_2:Int) (a0_3:Int) (r:Bool) (w:World) (h:r06_Valid.f a0_0 a0_1 a0_2 a0_3=some r) :
  Calls Try.prog 40 #[.agg #[.int .i64 a0_0,.int .i64 a0_1,.int .i64 a0_2,.int .i64 a0_3]] w fun e w'=>e = .returned (.bool r)∧Below w.heap.size w w':=by
 have hu38:=Try.underlying38;have HB:=Aside0.mk (Below.refl w.heap.size w)
 have H:((r06_Limit.f a0_0 a0_1 a0_2 a0_3).bind fun bt109=>(some (bt109.1==a0_0&&(bt109.2.1==a0_1&&(bt109.2.2.1==a0_2&&(bt109.2.2.2==a0_3))))))=some r:=h
 clear h;replace H:=Option.bind_eq_some_iff.mp H;obtain ⟨⟨t109,t110,t111,t112⟩,A20,H⟩:=H;replace H:(some (t109==a0_0&&(t110==a0_1&&(t111==a0_2&&(t112==a0_3)))))=some r:=H;have A2:=Aside0.mk A20;clear A20;obtain rfl:=Option.some.inj H
 go_enter Try.func40,Try.ntmps40
 try go_wp2_with (first|((with_reducible refine gate_dst (N:=1) rfl ?_);refine box_event ?hg (N:=1) ?hd (cs:=#[.int .i64 a0_0,.int .i64 a0_1,.int .i64 a0_2,.int .i64 a0_3]) (t:=38) ?hr ?_;(case hd=>rfl);(case hg=>rfl);(case hr=>first|(go_simp;done)|(go_simp;rfl));intro gb108 hg w3 hbox hb;have n0_:=Aside0.mk (below_step (by repeat first|(with_reducible first|exact HB.out|apply lA_|apply lN_|apply lD_)|exact HB.out) hb);have n1_:=Aside0.mk (hbox);have n2_:=Aside0.mk ((by rw [hg];exact (below_size (by repeat first|(with_reducible first|exact HB.out|apply lA_|apply lN_|apply lD_)|exact HB.out)):w.heap.size≤gb108));have n3_:=Aside0.mk ((by rw [hg];exact (below_size (by repeat first|(with_reducible first|exact HB.out|apply lA_|apply lN_|apply lD_)|exact HB.out)):w.heap.size≤gb108));clear HB;have HB:=n0_;have BK108:=n1_;have GW108:=n2_;have GE108:=n3_;clear n0_ n1_ n2_ n3_;clear hb hbox hg))
 have n0_:=Aside0.mk (blk_drew BK108.out);have n1_:=Aside0.mk (below_drew1 HB.out);clear BK108;clear HB;have BK108:=n0_;have HB:=n1_;clear n0_ n1_
 refine start_ (n:=5) (S:=fun w'=>w'.cell? ⟨gb108,0,none⟩=some (.int .i64 a0_0)∧w'.cell? ⟨gb108,1,none⟩=some (.int .i64 a0_1)∧w'.cell? ⟨gb108,2,none⟩=some (.int .i64 a0_2)∧w'.cell? ⟨gb108,3,none⟩=some (.int .i64 a0_3)) (ds:=[]) #[F_,F_,F_,F_,F_] (by kernel_rfl) rfl rfl ⟨(blk_cell BK108.out 0).trans rfl,(blk_cell BK108.out 1).trans rfl,(blk_cell BK108.out 2).trans rfl,(blk_cell BK108.out 3).trans rfl⟩ (fun hHeld=>?_)
 generalize w3.drew=w4 at BK108 HB hHeld ⊢
 refine take_ (i:=0) (N:=some 3) (v:=?_) (a':=?_) #[T_,F_,F_,F_,F_] rfl rfl (by kernel_rfl) (fun _ _ _ h=>h) (Or.inl ⟨by rfl,?_⟩) hHeld ?_ ?_
 rotate_left
 ·rintro w' ⟨s0,s1,s2,s3⟩
  go_simp
  with_reducible rfl
 rotate_left
 ·simp only [Act.put,tS_,tZ_,tC_,i64_w,i32_w]
  rfl
 refine take_ (i:=2) (N:=some 5) (v:=?_) (a':=?_) #[T_,F_,T_,F_,F_] rfl rfl (by kernel_rfl) (fun _ _ _ h=>h) (Or.inl ⟨by rfl,?_⟩) hHeld ?_ ?_
 rotate_left
 ·rintro w' ⟨s0,s1,s2,s3⟩
  go_simp
  with_reducible rfl
 rotate_left
 ·simp only [Act.put,tS_,tZ_,tC_,i64_w,i32_w]
  rfl
 refine one_ (i:=1) (N:=some 4) #[T_,T_,T_,F_,F_] rfl rfl (by kernel_rfl) (by decide) (fun K hK=>?_)
 refine goes_ Try.func48 (by kernel_rfl) rfl #[.agg #[.int .i64 a0_0,.int .i64 a0_1,.int .i64 a0_2,.int .i64 a0_3]] (by rfl) rfl rfl (by (try simp only [mA_,mC_,mN_]);first|done|rfl|(simp only [dL_,kL_];rfl)) ?_
 with_reducible refine (r06_Limit.calls a0_0 a0_1 a0_2 a0_3 t109 t110 t111 t112 _ A2.out).mono ?_
 rintro e w5 ⟨rfl,hb⟩;refine ⟨_,rfl,?_⟩
 have n0_:=Aside0.mk (blk_below (by (with_reducible repeat first|apply bN_|apply bD_|apply bA_);exact BK108.out) hb)
 have n1_:=Aside0.mk (below_step (by repeat first|(with_reducible first|exact HB.out|apply lA_|apply lN_|apply lD_|refine lS_ ?_ GE108.out)|exact HB.out) hb)
 clear BK108;clear HB;have BK108:=n0_;have HB:=n1_;clear n0_ n1_
 (try clear hb)
 (try clear hb2)
 (try clear hk)
 (try clear hi)
 refine hK.out _ _ ⟨(blk_cell BK108.out 0).trans rfl,(blk_cell BK108.out 1).trans rfl,(blk_cell BK108.out 2).trans rfl,(blk_cell BK108.out 3).trans rfl⟩ (fun hHeld=>?_)
 clear hK K;refine norm_ (a':=?_) ?_ ?_;rotate_left
 ·show Act.put _ (some 4) _=_
  simp only [Act.put,tS_,tZ_,tC_,i64_w,i32_w];rfl
 refine pure_ (i:=3) (N:=some 6) (v:=?_) (a':=?_) #[T_,T_,T_,T_,F_] rfl rfl (by kernel_rfl) (fun _ _ _ h=>h) (Or.inl ⟨by rfl,?_⟩) ?_ ?_
 rotate_left
 ·intro w'
  go_simp
  with_reducible rfl
 rotate_left
 ·simp only [Act.put,tS_,tZ_,tC_,i64_w,i32_w]
  rfl
 refine pure_ (i:=4) (N:=some 2) (v:=?_) (a':=?_) #[T_,T_,T_,T_,T_] rfl rfl (by kernel_rfl) (fun _ _ _ h=>h) (Or.inl ⟨by rfl,?_⟩) ?_ ?_
 rotate_left
 ·intro w'
  go_simp
  with_reducible rfl
 rotate_left
 ·simp only [Act.put,tS_,tZ_,tC_,i64_w,i32_w]
  rfl
 refine done_ (by kernel_rfl) ?_
 try go_wp2
 go_ret
 exact ⟨by first|rfl|(simp [errW_none,errW_some] <;> rfl)|(simp [*,errW_none,errW_some] <;> rfl),by repeat first|(with_reducible first|exact HB.out|apply lA_|apply lN_|apply lD_|refine lS_ ?_ GE108.out)|exact HB.out⟩

/-! ### r18_Stops: function 22 -/
mutual
def r18_Stops.l0:Nat→List (S47)→Int→Int→Option (Int)
 | 0,_,_,_=>none
 | k+1,x0,x11,x12=>if x12<x11 then (if 0≤x12 then (if x12<(x0.length:Int) then (if ((rd_T47 x0 x12).f0)<0 then (r18_Stops.j1 k x0 x12 x11 x12 true) else (if ((rd_T47 x0 x12).f0)>65535 then (r18_Stops.j1 k x0 x12 x11 x12 true) else ((r06_Valid.f ((rd_T47 x0 x12).f1.f0) ((rd_T47 x0 x12).f1.f1) ((rd_T47 x0 x12).f1.f2) ((rd_T47 x0 x12).f1.f3)).bind fun t116=>(r18_Stops.j1 k x0 x12 x11 x12 (!t116))))) else (none)) else (none)) else (some 0)
def r18_Stops.j1:Nat→List (S47)→Int→Int→Int→Bool→Option (Int)
 | 0,_,_,_,_,_=>none
 | k+1,x0,x3,x11,x12,x37=>if x37=true then (some 2) else (if x3>0 then (if 0≤x3 then (if x3<(x0.length:Int) then (if 0≤(wrap64 (x3-1)) then (if (wrap64 (x3-1))<(x0.length:Int) then (if ((rd_T47 x0 x3).f0)≤((rd_T47 x0 (wrap64 (x3-1))).f0) then (some 24) else (r18_Stops.l0 k x0 x11 (wrap64 (x12+1)))) else (none)) else (none)) else (none)) else (none)) else (r18_Stops.l0 k x0 x11 (wrap64 (x12+1))))
end
def r18_Stops.f (k:Nat) (l0:List (S47)):Option (Int):=if (l0.length:Int)=0 then (some 1) else (if (l0.length:Int)>16 then (some 3) else (r18_Stops.l0 k l0 (l0.length:Int) 0))
theorem r18_Stops.mono_l:∀ k,(∀ y0 y1 y2,LeO (r18_Stops.l0 k y0 y1 y2) (r18_Stops.l0 (k+1) y0 y1 y2))∧(∀ y0 y1 y2 y3 y4,LeO (r18_Stops.j1 k y0 y1 y2 y3 y4) (r18_Stops.j1 (k+1) y0 y1 y2 y3 y4))
 | 0=>⟨fun _ _ _ r h=>by simp [r18_Stops.l0] at h,fun _ _ _ _ _ r h=>by simp [r18_Stops.j1] at h⟩
 | k+1=>by
  obtain ⟨ih0,ih1⟩:=r18_Stops.mono_l k;refine ⟨?_,?_⟩;intro y0 y1 y2;unfold r18_Stops.l0;rotate_left;intro y0 y1 y2 y3 y4;unfold r18_Stops.j1;rotate_left
  all_goals repeat' first
   | (with_reducible exact ih0 _ _ _)
   | (with_reducible exact ih1 _ _ _ _ _)
   | (with_reducible exact LeO.refl _)
   | (with_reducible exact LeO.none _)
   | (with_reducible refine LeO.ite ?_ ?_)
   | (with_reducible refine LeO.bind ?_ (fun _=>?_))
theorem r18_Stops.mono:∀ a0 k,LeO (r18_Stops.f k a0) (r18_Stops.f (k+1) a0):=by
 intro a0 k;obtain ⟨ih0,ih1⟩:=r18_Stops.mono_l k
 unfold r18_Stops.f
 repeat' first
   | (with_reducible exact ih0 _ _ _)
   | (with_reducible exact ih1 _ _ _ _ _)
   | (with_reducible exact LeO.refl _)
   | (with_reducible exact LeO.none _)
   | (with_reducible refine LeO.ite ?_ ?_)
   | (with_reducible refine LeO.bind ?_ (fun _=>?_))
set_option maxHeartbeats 8000000 in
set_option maxRecDepth 100000 in
theorem r18_Stops.calls (k:Nat) (A0:Option Addr) (c0:Nat) (l0:List (S47)) (r:Int) (w:World) (hr0:Kd.C k47 w A0 l0.length l0) (hc0:l0.length≤c0) (h:r18_Stops.f k l0=some r) :
  Calls Try.prog 22 #[.slice A0 l0.length c0] w fun e w'=>e = .returned (.int .i64 r)∧Below w.heap.size w w':=by
 have hu38:=Try.underlying38;have HR0:=Aside0.mk hr0;have HC0:=Aside0.mk hc0;clear hr0 hc0;have HB:=Aside0.mk (Below.refl w.heap.size w)
 have H:(if (l0.length:Int)=0 then (some 1) else (if (l0.length:Int)>16 then (some 3) else (r18_Stops.l0 k l0 (l0.length:Int) 0)))=some r:=h
 clear h;by_cases c2:(l0.length:Int)=0
 ·rw [if_pos c2] at H
  have c2b0:=beq_iff_eq.mpr c2;have c2b1:=bne_eq_false_iff_eq.mpr c2;clear c2;obtain rfl:=Option.some.inj H
  go_enter Try.func22,Try.ntmps22
  go_wp2
  repeat (go_quiet (fail);try go_wp2)
  go_ret
  exact ⟨by first|rfl|(simp [errW_none,errW_some] <;> rfl)|(simp [*,errW_none,errW_some] <;> rfl),by repeat first|(with_reducible first|exact HB.out|apply lA_|apply lN_|apply lD_)|exact HB.out⟩
 rw [if_neg c2] at H;have c2b0:((l0.length:Int)==0)=false:=beq_eq_false_iff_ne.mpr c2;have c2b1:((l0.length:Int) != 0)=true:=bne_iff_ne.mpr c2
 have c2b2:¬ (l0=[]):=fun h_=>c2 (by rw [h_];rfl)
 by_cases c3:(l0.length:Int)>16
 ·rw [if_pos c3] at H
  have c3b0:=decide_eq_true c3
  have c3b1:decide (16<l0.length)=true:=decide_eq_true (by omega)
  clear c3;obtain rfl:=Option.some.inj H
  go_enter Try.func22,Try.ntmps22
  go_wp2
  repeat (go_quiet (fail);try go_wp2)
  go_ret
  exact ⟨by first|rfl|(simp [errW_none,errW_some] <;> rfl)|(simp [*,errW_none,errW_some] <;> rfl),by repeat first|(with_reducible first|exact HB.out|apply lA_|apply lN_|apply lD_)|exact HB.out⟩
 rw [if_neg c3] at H;have c3b0:=decide_eq_false c3
 have c3b1:decide (16<l0.length)=false:=decide_eq_false (by omega)
 clear c3;have H':=Aside0.mk H;clear H
 go_enter Try.func22,Try.ntmps22
 go_wp2
 repeat (go_quiet (fail);try go_wp2)
 go_loopg [12] k (fun kq v12 w'=>∃ (x12_1:Int),v12 = .int .i64 x12_1∧Aside0 (r18_Stops.l0 kq l0 (l0.length:Int) x12_1=some r)∧Aside0 (kq≤k)∧Aside0 (Below w.heap.size w w'))
 case atStart=>exact ⟨(0),(by first|rfl|(simp;done)|(simp [*];done)),H',⟨Nat.le_refl _⟩,⟨by repeat first|(with_reducible first|exact HB.out|apply lA_|apply lN_|apply lD_)|exact HB.out⟩⟩
 case round =>
  clear H';obtain ⟨x12_1,rfl,HA,HK1,HB⟩:=hrel
  cases gk with
  | zero=>exact absurd HA.out (by simp [r18_Stops.l0])
  | succ k1 =>
   have H:=HA.out;clear HA;simp only [r18_Stops.l0] at H;by_cases c4:x12_1<(l0.length:Int)
   ·rw [if_pos c4] at H
    have c4b0:=decide_eq_true c4;clear c4;have HC5:=Aside0.mk H;clear H
    go_upto_region 8 with (fail)
    repeat (go_quiet (fail);go_upto_region 8 with (fail))
    go_cut [37] (fun v37 wc=>∃ (kq:Nat) (x37_4:Bool),v37 = .bool x37_4∧Aside0 (r18_Stops.j1 kq l0 x12_1 (l0.length:Int) x12_1 x37_4=some r)∧Aside0 (kq≤k1)∧Aside0 (Below w.heap.size w wc))
    case first =>
     have H:=HC5.out;clear HC5;by_cases c6:0≤x12_1
     ·rw [if_pos c6] at H
      have c6b0:=decide_eq_true c6;clear c6
      (first|rw [c6b0]|(simp only [i64_w,i32_w];rw [c6b0])|skip)
      by_cases c7:x12_1<(l0.length:Int)
      ·rw [if_pos c7] at H
       have c7b0:=decide_eq_true c7;clear c7;by_cases c8:((rd_T47 l0 x12_1).f0)<0
       ·rw [if_pos c8] at H
        have c8b0:=decide_eq_true c8;clear c8;have H':=Aside0.mk H;clear H
        have p113:0≤(x12_1:Int):=of_decide_eq_true (by first|(with_reducible assumption)|assumption)
        have q113:x12_1<(l0.length:Int):=of_decide_eq_true (by first|(with_reducible assumption)|assumption)
        obtain ⟨ad113,e113,hx113_0,hx113_1,hx113_2,hx113_3,hx113_4⟩:=at_T47 HR0.out x12_1 p113 q113;cases e113;replace hx113_0:=(HB.out.cell (World.block_lt_of_cell? w _ hx113_0)).trans hx113_0;replace hx113_1:=(HB.out.cell (World.block_lt_of_cell? w _ hx113_1)).trans hx113_1;replace hx113_2:=(HB.out.cell (World.block_lt_of_cell? w _ hx113_2)).trans hx113_2;replace hx113_3:=(HB.out.cell (World.block_lt_of_cell? w _ hx113_3)).trans hx113_3;replace hx113_4:=(HB.out.cell (World.block_lt_of_cell? w _ hx113_4)).trans hx113_4;replace p113:=eq_true p113;replace q113:=eq_true q113
        go_wp2
        repeat (go_quiet (fail);try go_wp2)
        go_meet
        case rel=>exact ⟨_,(true),(by first|rfl|(simp;done)|(simp [*];done)),H',⟨by have:=HK1.out;first|omega|exact Nat.le_refl _⟩,⟨by repeat first|(with_reducible first|exact HB.out|apply lA_|apply lN_|apply lD_)|exact HB.out⟩⟩
       rw [if_neg c8] at H;have c8b0:=decide_eq_false c8;clear c8;by_cases c9:((rd_T47 l0 x12_1).f0)>65535
       ·rw [if_pos c9] at H
        have c9b0:=decide_eq_true c9;clear c9;have H':=Aside0.mk H;clear H
        have p113:0≤(x12_1:Int):=of_decide_eq_true (by first|(with_reducible assumption)|assumption)
        have q113:x12_1<(l0.length:Int):=of_decide_eq_true (by first|(with_reducible assumption)|assumption)
        obtain ⟨ad113,e113,hx113_0,hx113_1,hx113_2,hx113_3,hx113_4⟩:=at_T47 HR0.out x12_1 p113 q113;cases e113;replace hx113_0:=(HB.out.cell (World.block_lt_of_cell? w _ hx113_0)).trans hx113_0;replace hx113_1:=(HB.out.cell (World.block_lt_of_cell? w _ hx113_1)).trans hx113_1;replace hx113_2:=(HB.out.cell (World.block_lt_of_cell? w _ hx113_2)).trans hx113_2;replace hx113_3:=(HB.out.cell (World.block_lt_of_cell? w _ hx113_3)).trans hx113_3;replace hx113_4:=(HB.out.cell (World.block_lt_of_cell? w _ hx113_4)).trans hx113_4;replace p113:=eq_true p113;replace q113:=eq_true q113
        have p114:0≤(x12_1:Int):=of_decide_eq_true (by first|(with_reducible assumption)|assumption)
        have q114:x12_1<(l0.length:Int):=of_decide_eq_true (by first|(with_reducible assumption)|assumption)
        obtain ⟨ad114,e114,hx114_0,hx114_1,hx114_2,hx114_3,hx114_4⟩:=at_T47 HR0.out x12_1 p114 q114
        obtain rfl:ad113=ad114:=(by injection e114)
        replace hx114_0:=(HB.out.cell (World.block_lt_of_cell? w _ hx114_0)).trans hx114_0;replace hx114_1:=(HB.out.cell (World.block_lt_of_cell? w _ hx114_1)).trans hx114_1;replace hx114_2:=(HB.out.cell (World.block_lt_of_cell? w _ hx114_2)).trans hx114_2;replace hx114_3:=(HB.out.cell (World.block_lt_of_cell? w _ hx114_3)).trans hx114_3;replace hx114_4:=(HB.out.cell (World.block_lt_of_cell? w _ hx114_4)).trans hx114_4;replace p114:=eq_true p114;replace q114:=eq_true q114
        go_wp2
        repeat (go_quiet (fail);try go_wp2)
        go_meet
        case rel=>exact ⟨_,(true),(by first|rfl|(simp;done)|(simp [*];done)),H',⟨by have:=HK1.out;first|omega|exact Nat.le_refl _⟩,⟨by repeat first|(with_reducible first|exact HB.out|apply lA_|apply lN_|apply lD_)|exact HB.out⟩⟩
       rw [if_neg c9] at H;have c9b0:=decide_eq_false c9;clear c9;replace H:=Option.bind_eq_some_iff.mp H;obtain ⟨t116,A100,H⟩:=H;replace H:(r18_Stops.j1 k1 l0 x12_1 (l0.length:Int) x12_1 (!t116))=some r:=H;have A10:=Aside0.mk A100;clear A100;have H':=Aside0.mk H;clear H
       have p113:0≤(x12_1:Int):=of_decide_eq_true (by first|(with_reducible assumption)|assumption)
       have q113:x12_1<(l0.length:Int):=of_decide_eq_true (by first|(with_reducible assumption)|assumption)
       obtain ⟨ad113,e113,hx113_0,hx113_1,hx113_2,hx113_3,hx113_4⟩:=at_T47 HR0.out x12_1 p113 q113;cases e113;replace hx113_0:=(HB.out.cell (World.block_lt_of_cell? w _ hx113_0)).trans hx113_0;replace hx113_1:=(HB.out.cell (World.block_lt_of_cell? w _ hx113_1)).trans hx113_1;replace hx113_2:=(HB.out.cell (World.block_lt_of_cell? w _ hx113_2)).trans hx113_2;replace hx113_3:=(HB.out.cell (World.block_lt_of_cell? w _ hx113_3)).trans hx113_3;replace hx113_4:=(HB.out.cell (World.block_lt_of_cell? w _ hx113_4)).trans hx113_4;replace p113:=eq_true p113;replace q113:=eq_true q113
       have p114:0≤(x12_1:Int):=of_decide_eq_true (by first|(with_reducible assumption)|assumption)
       have q114:x12_1<(l0.length:Int):=of_decide_eq_true (by first|(with_reducible assumption)|assumption)
       obtain ⟨ad114,e114,hx114_0,hx114_1,hx114_2,hx114_3,hx114_4⟩:=at_T47 HR0.out x12_1 p114 q114
       obtain rfl:ad113=ad114:=(by injection e114)
       replace hx114_0:=(HB.out.cell (World.block_lt_of_cell? w _ hx114_0)).trans hx114_0;replace hx114_1:=(HB.out.cell (World.block_lt_of_cell? w _ hx114_1)).trans hx114_1;replace hx114_2:=(HB.out.cell (World.block_lt_of_cell? w _ hx114_2)).trans hx114_2;replace hx114_3:=(HB.out.cell (World.block_lt_of_cell? w _ hx114_3)).trans hx114_3;replace hx114_4:=(HB.out.cell (World.block_lt_of_cell? w _ hx114_4)).trans hx114_4;replace p114:=eq_true p114;replace q114:=eq_true q114
       have p115:0≤(x12_1:Int):=of_decide_eq_true (by first|(with_reducible assumption)|assumption)
       have q115:x12_1<(l0.length:Int):=of_decide_eq_true (by first|(with_reducible assumption)|assumption)
       obtain ⟨ad115,e115,hx115_0,hx115_1,hx115_2,hx115_3,hx115_4⟩:=at_T47 HR0.out x12_1 p115 q115
       obtain rfl:ad113=ad115:=(by injection e115)
       replace hx115_0:=(HB.out.cell (World.block_lt_of_cell? w _ hx115_0)).trans hx115_0;replace hx115_1:=(HB.out.cell (World.block_lt_of_cell? w _ hx115_1)).trans hx115_1;replace hx115_2:=(HB.out.cell (World.block_lt_of_cell? w _ hx115_2)).trans hx115_2;replace hx115_3:=(HB.out.cell (World.block_lt_of_cell? w _ hx115_3)).trans hx115_3;replace hx115_4:=(HB.out.cell (World.block_lt_of_cell? w _ hx115_4)).trans hx115_4;replace p115:=eq_true p115;replace q115:=eq_true q115
       go_wp2_with (first|(go_at_call 40;(with_reducible refine (r06_Valid.calls ((rd_T47 l0 x12_1).f1.f0) ((rd_T47 l0 x12_1).f1.f1) ((rd_T47 l0 x12_1).f1.f2) ((rd_T47 l0 x12_1).f1.f3) t116 _ A10.out).mono ?_);rintro e w11 ⟨rfl,hb⟩;have n0_:=Aside0.mk (below_step (by repeat first|(with_reducible first|exact HB.out|apply lA_|apply lN_|apply lD_)|exact HB.out) hb);clear HB;have HB:=n0_;clear n0_;(try clear hb);(try clear hb2);(try clear hk);(try clear hi)))
       repeat (go_quiet (first|(go_at_call 40;(with_reducible refine (r06_Valid.calls ((rd_T47 l0 x12_1).f1.f0) ((rd_T47 l0 x12_1).f1.f1) ((rd_T47 l0 x12_1).f1.f2) ((rd_T47 l0 x12_1).f1.f3) t116 _ A10.out).mono ?_);rintro e w11 ⟨rfl,hb⟩;have n0_:=Aside0.mk (below_step (by repeat first|(with_reducible first|exact HB.out|apply lA_|apply lN_|apply lD_)|exact HB.out) hb);clear HB;have HB:=n0_;clear n0_;(try clear hb);(try clear hb2);(try clear hk);(try clear hi)));try go_wp2_with (first|(go_at_call 40;(with_reducible refine (r06_Valid.calls ((rd_T47 l0 x12_1).f1.f0) ((rd_T47 l0 x12_1).f1.f1) ((rd_T47 l0 x12_1).f1.f2) ((rd_T47 l0 x12_1).f1.f3) t116 _ A10.out).mono ?_);rintro e w11 ⟨rfl,hb⟩;have n0_:=Aside0.mk (below_step (by repeat first|(with_reducible first|exact HB.out|apply lA_|apply lN_|apply lD_)|exact HB.out) hb);clear HB;have HB:=n0_;clear n0_;(try clear hb);(try clear hb2);(try clear hk);(try clear hi))))
       go_meet
       case rel=>exact ⟨_,(!t116),(by first|rfl|(simp;done)|(simp [*];done)),H',⟨by have:=HK1.out;first|omega|exact Nat.le_refl _⟩,⟨by repeat first|(with_reducible first|exact HB.out|apply lA_|apply lN_|apply lD_)|exact HB.out⟩⟩
      rw [if_neg c7] at H
      exact absurd H (by simp)
     rw [if_neg c6] at H
     exact absurd H (by simp)
    case rest =>
     clear HC5;obtain ⟨kq,x37_4,rfl,HA,HJ4,HB⟩:=hcut
     cases kq with
     | zero=>exact absurd HA.out (by simp [r18_Stops.j1])
     | succ kj4 =>
      have H:=HA.out;clear HA;simp only [r18_Stops.j1] at H;by_cases c12:x37_4=true
      ·subst c12
       have H1:(some 2)=some r:=by rw [if_pos rfl] at H;exact H
       clear H;have H:=H1;clear H1;obtain rfl:=Option.some.inj H
       go_wp2
       repeat (go_quiet (fail);try go_wp2)
       go_ret
       exact ⟨by first|rfl|(simp [errW_none,errW_some] <;> rfl)|(simp [*,errW_none,errW_some] <;> rfl),by repeat first|(with_reducible first|exact HB.out|apply lA_|apply lN_|apply lD_)|exact HB.out⟩
      replace c12:=Bool.eq_false_iff.mpr c12;subst c12
      have H1:(if x12_1>0 then (if 0≤x12_1 then (if x12_1<(l0.length:Int) then (if 0≤(wrap64 (x12_1-1)) then (if (wrap64 (x12_1-1))<(l0.length:Int) then (if ((rd_T47 l0 x12_1).f0)≤((rd_T47 l0 (wrap64 (x12_1-1))).f0) then (some 24) else (r18_Stops.l0 kj4 l0 (l0.length:Int) (wrap64 (x12_1+1)))) else (none)) else (none)) else (none)) else (none)) else (r18_Stops.l0 kj4 l0 (l0.length:Int) (wrap64 (x12_1+1))))=some r:=by rw [if_neg (show ¬ (false=true) by decide)] at H;exact H
      clear H;have H:=H1;clear H1;by_cases c13:x12_1>0
      ·rw [if_pos c13] at H
       have c13b0:=decide_eq_true c13;clear c13;by_cases c14:0≤x12_1
       ·rw [if_pos c14] at H
        have c14b0:=decide_eq_true c14;clear c14;by_cases c15:x12_1<(l0.length:Int)
        ·rw [if_pos c15] at H
         have c15b0:=decide_eq_true c15;clear c15;obtain ⟨ji16,hji16⟩:∃ j_:Int,(wrap64 (x12_1-1))=j_:=⟨_,rfl⟩
         replace H:(if 0≤(ji16) then (if (ji16)<(l0.length:Int) then (if ((rd_T47 l0 x12_1).f0)≤((rd_T47 l0 (ji16)).f0) then (some 24) else (r18_Stops.l0 kj4 l0 (l0.length:Int) (wrap64 (x12_1+1)))) else (none)) else (none))=some r:=by first|(rw [hji16] at H;exact H)|(simp only [hji16] at H ⊢;exact H)
         have hji16w:(IntKind.i64.wrap (x12_1-1))=ji16:=(i64_w _).trans hji16;by_cases c17:0≤(ji16)
         ·rw [if_pos c17] at H
          have c17b0:=decide_eq_true c17;clear c17;by_cases c18:(ji16)<(l0.length:Int)
          ·rw [if_pos c18] at H
           have c18b0:=decide_eq_true c18;clear c18;by_cases c19:((rd_T47 l0 x12_1).f0)≤((rd_T47 l0 (ji16)).f0)
           ·rw [if_pos c19] at H
            have c19b0:=decide_eq_true c19;clear c19;obtain rfl:=Option.some.inj H
            have p117:0≤(x12_1:Int):=of_decide_eq_true (by first|(with_reducible assumption)|assumption)
            have q117:x12_1<(l0.length:Int):=of_decide_eq_true (by first|(with_reducible assumption)|assumption)
            obtain ⟨ad117,e117,hx117_0,hx117_1,hx117_2,hx117_3,hx117_4⟩:=at_T47 HR0.out x12_1 p117 q117;cases e117;replace hx117_0:=(HB.out.cell (World.block_lt_of_cell? w _ hx117_0)).trans hx117_0;replace hx117_1:=(HB.out.cell (World.block_lt_of_cell? w _ hx117_1)).trans hx117_1;replace hx117_2:=(HB.out.cell (World.block_lt_of_cell? w _ hx117_2)).trans hx117_2;replace hx117_3:=(HB.out.cell (World.block_lt_of_cell? w _ hx117_3)).trans hx117_3;replace hx117_4:=(HB.out.cell (World.block_lt_of_cell? w _ hx117_4)).trans hx117_4;replace p117:=eq_true p117;replace q117:=eq_true q117
            have p118:0≤((ji16):Int):=of_decide_eq_true (by first|(with_reducible assumption)|assumption)
            have q118:(ji16)<(l0.length:Int):=of_decide_eq_true (by first|(with_reducible assumption)|assumption)
            obtain ⟨ad118,e118,hx118_0,hx118_1,hx118_2,hx118_3,hx118_4⟩:=at_T47 HR0.out (ji16) p118 q118
            obtain rfl:ad117=ad118:=(by injection e118)
            replace hx118_0:=(HB.out.cell (World.block_lt_of_cell? w _ hx118_0)).trans hx118_0;replace hx118_1:=(HB.out.cell (World.block_lt_of_cell? w _ hx118_1)).trans hx118_1;replace hx118_2:=(HB.out.cell (World.block_lt_of_cell? w _ hx118_2)).trans hx118_2;replace hx118_3:=(HB.out.cell (World.block_lt_of_cell? w _ hx118_3)).trans hx118_3;replace hx118_4:=(HB.out.cell (World.block_lt_of_cell? w _ hx118_4)).trans hx118_4;replace p118:=eq_true p118;replace q118:=eq_true q118
            go_wp2
            repeat (go_quiet (fail);try go_wp2)
            go_ret
            exact ⟨by first|rfl|(simp [errW_none,errW_some] <;> rfl)|(simp only [← hji16];first|rfl|(simp [errW_none,errW_some] <;> rfl))|(simp [*,errW_none,errW_some] <;> rfl),by repeat first|(with_reducible first|exact HB.out|apply lA_|apply lN_|apply lD_)|exact HB.out⟩
           rw [if_neg c19] at H;have c19b0:=decide_eq_false c19;clear c19;have H':=Aside0.mk H;clear H
           have p117:0≤(x12_1:Int):=of_decide_eq_true (by first|(with_reducible assumption)|assumption)
           have q117:x12_1<(l0.length:Int):=of_decide_eq_true (by first|(with_reducible assumption)|assumption)
           obtain ⟨ad117,e117,hx117_0,hx117_1,hx117_2,hx117_3,hx117_4⟩:=at_T47 HR0.out x12_1 p117 q117;cases e117;replace hx117_0:=(HB.out.cell (World.block_lt_of_cell? w _ hx117_0)).trans hx117_0;replace hx117_1:=(HB.out.cell (World.block_lt_of_cell? w _ hx117_1)).trans hx117_1;replace hx117_2:=(HB.out.cell (World.block_lt_of_cell? w _ hx117_2)).trans hx117_2;replace hx117_3:=(HB.out.cell (World.block_lt_of_cell? w _ hx117_3)).trans hx117_3;replace hx117_4:=(HB.out.cell (World.block_lt_of_cell? w _ hx117_4)).trans hx117_4;replace p117:=eq_true p117;replace q117:=eq_true q117
           have p118:0≤((ji16):Int):=of_decide_eq_true (by first|(with_reducible assumption)|assumption)
           have q118:(ji16)<(l0.length:Int):=of_decide_eq_true (by first|(with_reducible assumption)|assumption)
           obtain ⟨ad118,e118,hx118_0,hx118_1,hx118_2,hx118_3,hx118_4⟩:=at_T47 HR0.out (ji16) p118 q118
           obtain rfl:ad117=ad118:=(by injection e118)
           replace hx118_0:=(HB.out.cell (World.block_lt_of_cell? w _ hx118_0)).trans hx118_0;replace hx118_1:=(HB.out.cell (World.block_lt_of_cell? w _ hx118_1)).trans hx118_1;replace hx118_2:=(HB.out.cell (World.block_lt_of_cell? w _ hx118_2)).trans hx118_2;replace hx118_3:=(HB.out.cell (World.block_lt_of_cell? w _ hx118_3)).trans hx118_3;replace hx118_4:=(HB.out.cell (World.block_lt_of_cell? w _ hx118_4)).trans hx118_4;replace p118:=eq_true p118;replace q118:=eq_true q118
           go_wp2
           repeat (go_quiet (fail);try go_wp2)
           go_roundg kj4
           case measure=>have:=HK1.out;have:=HJ4.out;omega
           case rel=>exact ⟨(wrap64 (x12_1+1)),(by first|rfl|(simp;done)|(simp [*];done)),H',⟨by have:=HK1.out;have:=HJ4.out;omega⟩,⟨by repeat first|(with_reducible first|exact HB.out|apply lA_|apply lN_|apply lD_)|exact HB.out⟩⟩
          rw [if_neg c18] at H
          exact absurd H (by simp)
         rw [if_neg c17] at H
         exact absurd H (by simp)
        rw [if_neg c15] at H
        exact absurd H (by simp)
       rw [if_neg c14] at H
       exact absurd H (by simp)
      rw [if_neg c13] at H;have c13b0:=decide_eq_false c13;clear c13;have H':=Aside0.mk H;clear H
      go_wp2
      repeat (go_quiet (fail);try go_wp2)
      go_roundg kj4
      case measure=>have:=HK1.out;have:=HJ4.out;omega
      case rel=>exact ⟨(wrap64 (x12_1+1)),(by first|rfl|(simp;done)|(simp [*];done)),H',⟨by have:=HK1.out;have:=HJ4.out;omega⟩,⟨by repeat first|(with_reducible first|exact HB.out|apply lA_|apply lN_|apply lD_)|exact HB.out⟩⟩
   rw [if_neg c4] at H;have c4b0:=decide_eq_false c4;clear c4;obtain rfl:=Option.some.inj H
   go_wp2
   repeat (go_quiet (fail);try go_wp2)
   go_ret
   exact ⟨by first|rfl|(simp [errW_none,errW_some] <;> rfl)|(simp [*,errW_none,errW_some] <;> rfl),by repeat first|(with_reducible first|exact HB.out|apply lA_|apply lN_|apply lD_)|exact HB.out⟩

end Go.Proofs.Ytmlcobnidfkhfaa.Q
