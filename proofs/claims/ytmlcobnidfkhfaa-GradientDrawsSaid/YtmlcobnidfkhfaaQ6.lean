/- Each Go function of the law as a Lean function, with the proof that its call comes to just that, for every input; written by hp.py, a program of this session over the kit own print of the translation. -/
import Derived.Test.YtmlcobnidfkhfaaQ0
import Derived.Test.YtmlcobnidfkhfaaQ4
import Derived.Test.YtmlcobnidfkhfaaQ5
namespace Go.Proofs.Ytmlcobnidfkhfaa.Q
open Go.RowKit Go.Proofs.YtmlcobnidfkhfaaW.PrintWords Go.Proofs.YtmlcobnidfkhfaaW.PrintLast Go.Proofs.YtmlcobnidfkhfaaW.PrintMore
attribute [local go_sem] max2_int min2_int max_two min_two max_three min_three max_four min_four   -- for this text's walks alone
set_option linter.unusedVariables false
set_option linter.unusedSimpArgs false
open Go.Proofs.Ytmlcobnidfkhfaa.Clo Go.Proofs.Ytmlcobnidfkhfaa.Mk0

/-! ### gr_along: function 41 -/
def gr_along.f (k:Nat) (a0:Int) (l1:List Int) (a2:Int) (a3:Int):Option (Int):=if a0=1 then (if 2<(l1.length:Int) then (if 0<(l1.length:Int) then (if 3<(l1.length:Int) then (if 1<(l1.length:Int) then ((num_Div.f k (wrap64 (65535*(wrap64 ((wrap64 (a2*(wrap64 ((rd l1 2)-(rd l1 0)))))+(wrap64 (a3*(wrap64 ((rd l1 3)-(rd l1 1))))))))) (wrap64 ((wrap64 ((wrap64 ((rd l1 2)-(rd l1 0)))*(wrap64 ((rd l1 2)-(rd l1 0)))))+(wrap64 ((wrap64 ((rd l1 3)-(rd l1 1)))*(wrap64 ((rd l1 3)-(rd l1 1)))))))).bind fun t157=>(some t157)) else (none)) else (none)) else (none)) else (none)) else (if a0=3 then ((gr_angle.f k a2 a3).bind fun t158=>(if 2<(l1.length:Int) then ((gr_modulo.f (wrap64 (t158-(rd l1 2))) 65536).bind fun t160=>(some t160)) else (none))) else (if 2<(l1.length:Int) then (if (rd l1 2)=0 then (some 65535) else (if a0=4 then ((gr_abs.f a2).bind fun t162=>((gr_abs.f a3).bind fun t163=>((num_Div.f k (wrap64 (65535*(wrap64 (t162+t163)))) (rd l1 2)).bind fun t165=>(some t165)))) else ((num_Hypot.f k (wrap64 (16*a2)) (wrap64 (16*a3))).bind fun t166=>((num_Div.f k (wrap64 (65535*t166)) (wrap64 (16*(rd l1 2)))).bind fun t168=>(some t168))))) else (none)))
theorem gr_along.mono:∀ a0 a1 a2 a3 k,LeO (gr_along.f k a0 a1 a2 a3) (gr_along.f (k+1) a0 a1 a2 a3):=by
 intro a0 a1 a2 a3 k
 unfold gr_along.f
 repeat' first
   | (with_reducible exact gr_angle.mono _ _ _)
   | (with_reducible exact num_Div.mono _ _ _)
   | (with_reducible exact num_Hypot.mono _ _ _)
   | (with_reducible exact LeO.refl _)
   | (with_reducible exact LeO.none _)
   | (with_reducible refine LeO.ite ?_ ?_)
   | (with_reducible refine LeO.bind ?_ (fun _=>?_))
def gr_along.T3:Bool × List (List Nat × List Nat):=(true,[([],[]),([0],[0]),([1],[1]),([],[]),([3],[3]),([4],[4]),([2,5],[2,5]),([],[]),([7],[7]),([8],[8]),([],[]),([10],[10]),([11],[11]),([9,12],[9,12]),([6,0,1,2,3,4,5,6],[6]),([13,14,0,1,2,3,4,5,6,7,8,9,10,11,12,13,14],[13])])
def gr_along.B3:List Nat:=[0,1,3,0,8,24,63,0,128,384,0,1024,3072,8064,127,32767]
theorem gr_along.tab3:rtab .any (opsOf Try.f41 3)=gr_along.T3:=by kernel_rfl
theorem gr_along.bits3:waitsOk gr_along.T3.2 gr_along.B3=true:=by kernel_rfl
def gr_along.T6:Bool × List (List Nat × List Nat):=(true,[([],[]),([],[]),([0,1],[0,1]),([],[]),([3],[3]),([4],[4]),([2,5],[2,5]),([6,2],[6]),([7,7,0,1,2,3,4,5,6,7],[7])])
def gr_along.B6:List Nat:=[0,0,3,0,8,24,63,127,255]
theorem gr_along.tab6:rtab .any (opsOf Try.f41 6)=gr_along.T6:=by kernel_rfl
theorem gr_along.bits6:waitsOk gr_along.T6.2 gr_along.B6=true:=by kernel_rfl
def gr_along.T10:Bool × List (List Nat × List Nat):=(true,[([],[]),([0],[0]),([],[]),([2,1],[2]),([1,3],[1,3]),([4],[4]),([],[]),([6],[6]),([7],[7]),([5,8,3],[5,8]),([9,9,0,1,2,3,4,5,6,7,8,9],[9])])
def gr_along.B10:List Nat:=[0,1,0,7,15,31,0,64,192,511,1023]
theorem gr_along.tab10:rtab .any (opsOf Try.f41 10)=gr_along.T10:=by kernel_rfl
theorem gr_along.bits10:waitsOk gr_along.T10.2 gr_along.B10=true:=by kernel_rfl
def gr_along.T11:Bool × List (List Nat × List Nat):=(true,[([],[]),([0],[0]),([],[]),([2],[2]),([1,3],[1,3]),([4],[4]),([],[]),([6],[6]),([7],[7]),([8],[8]),([5,9,4],[5,9]),([10,10,0,1,2,3,4,5,6,7,8,9,10],[10])])
def gr_along.B11:List Nat:=[0,1,0,4,15,31,0,64,192,448,1023,2047]
theorem gr_along.tab11:rtab .any (opsOf Try.f41 11)=gr_along.T11:=by kernel_rfl
theorem gr_along.bits11:waitsOk gr_along.T11.2 gr_along.B11=true:=by kernel_rfl
set_option maxHeartbeats 8000000 in
set_option maxRecDepth 100000 in
theorem gr_along.calls (k:Nat) (a0:Int) (A1:Option Addr) (c1:Nat) (l1:List Int) (a2:Int) (a3:Int) (r:Int) (w:World) (hr1:Kd.C (Kd.int .i64) w A1 l1.length l1) (hc1:l1.length≤c1) (h:gr_along.f k a0 l1 a2 a3=some r) :
  Calls Try.prog 41 #[.int .i64 a0,.slice A1 l1.length c1,.int .i64 a2,.int .i64 a3] w fun e w'=>e = .returned (.int .i64 r)∧Below w.heap.size w w':=by
 have HR1:=Aside0.mk hr1;have HC1:=Aside0.mk hc1;clear hr1 hc1;have HB:=Aside0.mk (Below.refl w.heap.size w)
 have H:(if a0=1 then (if 2<(l1.length:Int) then (if 0<(l1.length:Int) then (if 3<(l1.length:Int) then (if 1<(l1.length:Int) then ((num_Div.f k (wrap64 (65535*(wrap64 ((wrap64 (a2*(wrap64 ((rd l1 2)-(rd l1 0)))))+(wrap64 (a3*(wrap64 ((rd l1 3)-(rd l1 1))))))))) (wrap64 ((wrap64 ((wrap64 ((rd l1 2)-(rd l1 0)))*(wrap64 ((rd l1 2)-(rd l1 0)))))+(wrap64 ((wrap64 ((rd l1 3)-(rd l1 1)))*(wrap64 ((rd l1 3)-(rd l1 1)))))))).bind fun t157=>(some t157)) else (none)) else (none)) else (none)) else (none)) else (if a0=3 then ((gr_angle.f k a2 a3).bind fun t158=>(if 2<(l1.length:Int) then ((gr_modulo.f (wrap64 (t158-(rd l1 2))) 65536).bind fun t160=>(some t160)) else (none))) else (if 2<(l1.length:Int) then (if (rd l1 2)=0 then (some 65535) else (if a0=4 then ((gr_abs.f a2).bind fun t162=>((gr_abs.f a3).bind fun t163=>((num_Div.f k (wrap64 (65535*(wrap64 (t162+t163)))) (rd l1 2)).bind fun t165=>(some t165)))) else ((num_Hypot.f k (wrap64 (16*a2)) (wrap64 (16*a3))).bind fun t166=>((num_Div.f k (wrap64 (65535*t166)) (wrap64 (16*(rd l1 2)))).bind fun t168=>(some t168))))) else (none))))=some r:=h
 clear h;by_cases c5:a0=1
 ·rw [if_pos c5] at H
  have c5b0:=beq_iff_eq.mpr c5;have c5b1:=bne_eq_false_iff_eq.mpr c5;clear c5;by_cases c6:2<(l1.length:Int)
  ·rw [if_pos c6] at H
   have c6b0:=decide_eq_true c6
   have c6b1:decide (2<l1.length)=true:=decide_eq_true (by omega)
   clear c6;by_cases c7:0<(l1.length:Int)
   ·rw [if_pos c7] at H
    have c7b0:=decide_eq_true c7
    have c7b1:decide (0<l1.length)=true:=decide_eq_true (by omega)
    clear c7;by_cases c8:3<(l1.length:Int)
    ·rw [if_pos c8] at H
     have c8b0:=decide_eq_true c8
     have c8b1:decide (3<l1.length)=true:=decide_eq_true (by omega)
     clear c8;by_cases c9:1<(l1.length:Int)
     ·rw [if_pos c9] at H
      have c9b0:=decide_eq_true c9
      have c9b1:decide (1<l1.length)=true:=decide_eq_true (by omega)
      clear c9;replace H:=Option.bind_eq_some_iff.mp H;obtain ⟨t157,A100,H⟩:=H;replace H:(some t157)=some r:=H;have A10:=Aside0.mk A100;clear A100;obtain rfl:=Option.some.inj H
      go_enter Try.func41,Try.ntmps41
      try go_wp2
      have n0_:=Aside0.mk (below_drew1 HB.out);clear HB;have HB:=n0_;clear n0_
      have p153:0≤(2:Int):=(by omega)
      have q153:2<(l1.length:Int):=of_decide_eq_true (by first|(with_reducible assumption)|assumption)
      obtain ⟨ad153,e153,hx153_0⟩:=Kd.at_int HR1.out 2 p153 q153;have hw153_0:=hx153_0
      (try rw [show ((2:Int)).toNat=2 from rfl] at hw153_0)
      (try rw [show 2*1=2 from rfl] at hw153_0)
      (try simp only [Nat.reduceMul,Nat.reduceEqDiff,Go.Addr.add,↓reduceIte] at hw153_0)
      cases e153
      (try simp only [show (2:Int).toNat=2 from rfl,Nat.reduceMul,Nat.reduceEqDiff,Go.Addr.add,↓reduceIte] at hx153_0)
      have qi153:(2<l1.length)=True:=eq_true (by omega)
      (try rw [show ((2:Int)).toNat=2 from rfl] at hx153_0)
      replace hx153_0:=(HB.out.cell (World.block_lt_of_cell? w _ hx153_0)).trans hx153_0;replace p153:=eq_true p153;replace q153:=eq_true q153
      have p154:0≤(0:Int):=(by omega)
      have q154:0<(l1.length:Int):=of_decide_eq_true (by first|(with_reducible assumption)|assumption)
      obtain ⟨ad154,e154,hx154_0⟩:=Kd.at_int HR1.out 0 p154 q154;have hw154_0:=hx154_0
      (try rw [show ((0:Int)).toNat=0 from rfl] at hw154_0)
      (try rw [show 0*1=0 from rfl] at hw154_0)
      (try rw [Addr.add_zero'] at hw154_0)
      obtain rfl:ad153=ad154:=(by injection e154)
      have qi154:(0<l1.length)=True:=eq_true (by omega)
      (try rw [show ((0:Int)).toNat=0 from rfl] at hx154_0)
      (try rw [Addr.add_zero'] at hx154_0)
      replace hx154_0:=(HB.out.cell (World.block_lt_of_cell? w _ hx154_0)).trans hx154_0;replace p154:=eq_true p154;replace q154:=eq_true q154
      have p155:0≤(3:Int):=(by omega)
      have q155:3<(l1.length:Int):=of_decide_eq_true (by first|(with_reducible assumption)|assumption)
      obtain ⟨ad155,e155,hx155_0⟩:=Kd.at_int HR1.out 3 p155 q155;have hw155_0:=hx155_0
      (try rw [show ((3:Int)).toNat=3 from rfl] at hw155_0)
      (try rw [show 3*1=3 from rfl] at hw155_0)
      (try simp only [Nat.reduceMul,Nat.reduceEqDiff,Go.Addr.add,↓reduceIte] at hw155_0)
      obtain rfl:ad153=ad155:=(by injection e155)
      (try simp only [show (3:Int).toNat=3 from rfl,Nat.reduceMul,Nat.reduceEqDiff,Go.Addr.add,↓reduceIte] at hx155_0)
      have qi155:(3<l1.length)=True:=eq_true (by omega)
      (try rw [show ((3:Int)).toNat=3 from rfl] at hx155_0)
      replace hx155_0:=(HB.out.cell (World.block_lt_of_cell? w _ hx155_0)).trans hx155_0;replace p155:=eq_true p155;replace q155:=eq_true q155
      have p156:0≤(1:Int):=(by omega)
      have q156:1<(l1.length:Int):=of_decide_eq_true (by first|(with_reducible assumption)|assumption)
      obtain ⟨ad156,e156,hx156_0⟩:=Kd.at_int HR1.out 1 p156 q156;have hw156_0:=hx156_0
      (try rw [show ((1:Int)).toNat=1 from rfl] at hw156_0)
      (try rw [show 1*1=1 from rfl] at hw156_0)
      (try simp only [Nat.reduceMul,Nat.reduceEqDiff,Go.Addr.add,↓reduceIte] at hw156_0)
      obtain rfl:ad153=ad156:=(by injection e156)
      (try simp only [show (1:Int).toNat=1 from rfl,Nat.reduceMul,Nat.reduceEqDiff,Go.Addr.add,↓reduceIte] at hx156_0)
      have qi156:(1<l1.length)=True:=eq_true (by omega)
      (try rw [show ((1:Int)).toNat=1 from rfl] at hx156_0)
      replace hx156_0:=(HB.out.cell (World.block_lt_of_cell? w _ hx156_0)).trans hx156_0;replace p156:=eq_true p156;replace q156:=eq_true q156
      refine start_ (n:=16) (S:=fun w'=>w'.cell? ⟨ad153.block,ad153.off+2,none⟩=some (.int .i64 (rd l1 2))∧w'.cell? ad153=some (.int .i64 (rd l1 0))∧w'.cell? ⟨ad153.block,ad153.off+3,none⟩=some (.int .i64 (rd l1 3))∧w'.cell? ⟨ad153.block,ad153.off+1,none⟩=some (.int .i64 (rd l1 1))) (ds:=[]) #[F_,F_,F_,F_,F_,F_,F_,F_,F_,F_,F_,F_,F_,F_,F_,F_] (by kernel_rfl) rfl rfl ⟨((HB.out.cell (World.block_lt_of_cell? w _ hw153_0)).trans hw153_0),((HB.out.cell (World.block_lt_of_cell? w _ hw154_0)).trans hw154_0),((HB.out.cell (World.block_lt_of_cell? w _ hw155_0)).trans hw155_0),((HB.out.cell (World.block_lt_of_cell? w _ hw156_0)).trans hw156_0)⟩ (fun hHeld=>?_);refine with_tabW gr_along.tab3 gr_along.bits3 (fun HT_ HW_=>?_)
      generalize w.drew=w11 at HB hx153_0 hx154_0 hx155_0 hx156_0 hHeld ⊢
      refine pure_ (i:=0) (N:=some 14) (v:=?_) (a':=?_) #[T_,F_,F_,F_,F_,F_,F_,F_,F_,F_,F_,F_,F_,F_,F_,F_] rfl rfl (any_of HT_.out (by kernel_rfl)) (fun _ _ _ h=>h) (Or.inl ⟨by rfl,?_⟩) ?_ ?_
      rotate_left
      ·intro w'
       go_simp
       with_reducible rfl
      rotate_left
      ·simp only [Act.put,tS_,tZ_,tC_,i64_w,i32_w]
       rfl
      refine pure_ (i:=1) (N:=some 15) (v:=?_) (a':=?_) #[T_,T_,F_,F_,F_,F_,F_,F_,F_,F_,F_,F_,F_,F_,F_,F_] rfl rfl (any_of HT_.out (by kernel_rfl)) (fun _ _ _ h=>h) (Or.inl ⟨by rfl,?_⟩) ?_ ?_
      rotate_left
      ·intro w'
       go_simp
       with_reducible rfl
      rotate_left
      ·simp only [Act.put,tS_,tZ_,tC_,i64_w,i32_w]
       rfl
      refine pure_ (i:=3) (N:=some 17) (v:=?_) (a':=?_) #[T_,T_,F_,T_,F_,F_,F_,F_,F_,F_,F_,F_,F_,F_,F_,F_] rfl rfl (any_of HT_.out (by kernel_rfl)) (fun _ _ _ h=>h) (Or.inl ⟨by rfl,?_⟩) ?_ ?_
      rotate_left
      ·intro w'
       go_simp
       with_reducible rfl
      rotate_left
      ·simp only [Act.put,tS_,tZ_,tC_,i64_w,i32_w]
       rfl
      refine pure_ (i:=4) (N:=some 18) (v:=?_) (a':=?_) #[T_,T_,F_,T_,T_,F_,F_,F_,F_,F_,F_,F_,F_,F_,F_,F_] rfl rfl (any_of HT_.out (by kernel_rfl)) (fun _ _ _ h=>h) (Or.inl ⟨by rfl,?_⟩) ?_ ?_
      rotate_left
      ·intro w'
       go_simp
       with_reducible rfl
      rotate_left
      ·simp only [Act.put,tS_,tZ_,tC_,i64_w,i32_w]
       rfl
      refine pure_ (i:=7) (N:=some 21) (v:=?_) (a':=?_) #[T_,T_,F_,T_,T_,F_,F_,T_,F_,F_,F_,F_,F_,F_,F_,F_] rfl rfl (any_of HT_.out (by kernel_rfl)) (fun _ _ _ h=>h) (Or.inl ⟨by rfl,?_⟩) ?_ ?_
      rotate_left
      ·intro w'
       go_simp
       with_reducible rfl
      rotate_left
      ·simp only [Act.put,tS_,tZ_,tC_,i64_w,i32_w]
       rfl
      refine pure_ (i:=8) (N:=some 22) (v:=?_) (a':=?_) #[T_,T_,F_,T_,T_,F_,F_,T_,T_,F_,F_,F_,F_,F_,F_,F_] rfl rfl (any_of HT_.out (by kernel_rfl)) (fun _ _ _ h=>h) (Or.inl ⟨by rfl,?_⟩) ?_ ?_
      rotate_left
      ·intro w'
       go_simp
       with_reducible rfl
      rotate_left
      ·simp only [Act.put,tS_,tZ_,tC_,i64_w,i32_w]
       rfl
      refine pure_ (i:=10) (N:=some 24) (v:=?_) (a':=?_) #[T_,T_,F_,T_,T_,F_,F_,T_,T_,F_,T_,F_,F_,F_,F_,F_] rfl rfl (any_of HT_.out (by kernel_rfl)) (fun _ _ _ h=>h) (Or.inl ⟨by rfl,?_⟩) ?_ ?_
      rotate_left
      ·intro w'
       go_simp
       with_reducible rfl
      rotate_left
      ·simp only [Act.put,tS_,tZ_,tC_,i64_w,i32_w]
       rfl
      refine pure_ (i:=11) (N:=some 25) (v:=?_) (a':=?_) #[T_,T_,F_,T_,T_,F_,F_,T_,T_,F_,T_,T_,F_,F_,F_,F_] rfl rfl (any_of HT_.out (by kernel_rfl)) (fun _ _ _ h=>h) (Or.inl ⟨by rfl,?_⟩) ?_ ?_
      rotate_left
      ·intro w'
       go_simp
       with_reducible rfl
      rotate_left
      ·simp only [Act.put,tS_,tZ_,tC_,i64_w,i32_w]
       rfl
      refine take_ (i:=2) (N:=some 16) (v:=?_) (a':=?_) #[T_,T_,T_,T_,T_,F_,F_,T_,T_,F_,T_,T_,F_,F_,F_,F_] rfl rfl (take_ofW HT_.out HW_.out (by kernel_rfl)) (fun _ _ _ h=>h) (Or.inl ⟨by rfl,?_⟩) hHeld ?_ ?_
      rotate_left
      ·rintro w' ⟨s0,s1,s2,s3⟩
       go_simp
       with_reducible rfl
      rotate_left
      ·simp only [Act.put,tS_,tZ_,tC_,i64_w,i32_w]
       rfl
      refine take_ (i:=5) (N:=some 19) (v:=?_) (a':=?_) #[T_,T_,T_,T_,T_,T_,F_,T_,T_,F_,T_,T_,F_,F_,F_,F_] rfl rfl (take_ofW HT_.out HW_.out (by kernel_rfl)) (fun _ _ _ h=>h) (Or.inl ⟨by rfl,?_⟩) hHeld ?_ ?_
      rotate_left
      ·rintro w' ⟨s0,s1,s2,s3⟩
       go_simp
       with_reducible rfl
      rotate_left
      ·simp only [Act.put,tS_,tZ_,tC_,i64_w,i32_w]
       rfl
      refine pure_ (i:=6) (N:=some 20) (v:=?_) (a':=?_) #[T_,T_,T_,T_,T_,T_,T_,T_,T_,F_,T_,T_,F_,F_,F_,F_] rfl rfl (any_of HT_.out (by kernel_rfl)) (fun _ _ _ h=>h) (Or.inl ⟨by rfl,?_⟩) ?_ ?_
      rotate_left
      ·intro w'
       go_simp
       with_reducible rfl
      rotate_left
      ·simp only [Act.put,tS_,tZ_,tC_,i64_w,i32_w]
       rfl
      refine pure_ (i:=14) (N:=some 9) (v:=?_) (a':=?_) #[T_,T_,T_,T_,T_,T_,T_,T_,T_,F_,T_,T_,F_,F_,T_,F_] rfl rfl (any_of HT_.out (by kernel_rfl)) (fun _ _ _ h=>h) (Or.inl ⟨by rfl,?_⟩) ?_ ?_
      rotate_left
      ·intro w'
       go_simp
       with_reducible rfl
      rotate_left
      ·simp only [Act.put,tS_,tZ_,tC_,i64_w,i32_w]
       rfl
      refine take_ (i:=9) (N:=some 23) (v:=?_) (a':=?_) #[T_,T_,T_,T_,T_,T_,T_,T_,T_,T_,T_,T_,F_,F_,T_,F_] rfl rfl (take_ofW HT_.out HW_.out (by kernel_rfl)) (fun _ _ _ h=>h) (Or.inl ⟨by rfl,?_⟩) hHeld ?_ ?_
      rotate_left
      ·rintro w' ⟨s0,s1,s2,s3⟩
       go_simp
       with_reducible rfl
      rotate_left
      ·simp only [Act.put,tS_,tZ_,tC_,i64_w,i32_w]
       rfl
      refine take_ (i:=12) (N:=some 26) (v:=?_) (a':=?_) #[T_,T_,T_,T_,T_,T_,T_,T_,T_,T_,T_,T_,T_,F_,T_,F_] rfl rfl (take_ofW HT_.out HW_.out (by kernel_rfl)) (fun _ _ _ h=>h) (Or.inl ⟨by rfl,?_⟩) hHeld ?_ ?_
      rotate_left
      ·rintro w' ⟨s0,s1,s2,s3⟩
       go_simp
       with_reducible rfl
      rotate_left
      ·simp only [Act.put,tS_,tZ_,tC_,i64_w,i32_w]
       rfl
      refine pure_ (i:=13) (N:=some 27) (v:=?_) (a':=?_) #[T_,T_,T_,T_,T_,T_,T_,T_,T_,T_,T_,T_,T_,T_,T_,F_] rfl rfl (any_of HT_.out (by kernel_rfl)) (fun _ _ _ h=>h) (Or.inl ⟨by rfl,?_⟩) ?_ ?_
      rotate_left
      ·intro w'
       go_simp
       with_reducible rfl
      rotate_left
      ·simp only [Act.put,tS_,tZ_,tC_,i64_w,i32_w]
       rfl
      refine pure_ (i:=15) (N:=some 10) (v:=?_) (a':=?_) #[T_,T_,T_,T_,T_,T_,T_,T_,T_,T_,T_,T_,T_,T_,T_,T_] rfl rfl (any_of HT_.out (by kernel_rfl)) (fun _ _ _ h=>h) (Or.inl ⟨by rfl,?_⟩) ?_ ?_
      rotate_left
      ·intro w'
       go_simp
       with_reducible rfl
      rotate_left
      ·simp only [Act.put,tS_,tZ_,tC_,i64_w,i32_w]
       rfl
      refine done_ (done_of HT_.out (by kernel_rfl)) ?_
      try go_wp2_with (first|((with_reducible refine gate_callee (f:=46) rfl ?_);refine goesL_ (some 43) rfl rfl Try.func46 (by kernel_rfl) rfl #[.int .i64 (wrap64 (65535*(wrap64 ((wrap64 (a2*(wrap64 ((rd l1 2)-(rd l1 0)))))+(wrap64 (a3*(wrap64 ((rd l1 3)-(rd l1 1))))))))),.int .i64 (wrap64 ((wrap64 ((wrap64 ((rd l1 2)-(rd l1 0)))*(wrap64 ((rd l1 2)-(rd l1 0)))))+(wrap64 ((wrap64 ((rd l1 3)-(rd l1 1)))*(wrap64 ((rd l1 3)-(rd l1 1)))))))] rfl (by (try simp only [mA_,mC_,mN_]);first|done|rfl|(simp only [dL_,kL_];rfl)) ?_;(with_reducible refine (num_Div.calls k (wrap64 (65535*(wrap64 ((wrap64 (a2*(wrap64 ((rd l1 2)-(rd l1 0)))))+(wrap64 (a3*(wrap64 ((rd l1 3)-(rd l1 1))))))))) (wrap64 ((wrap64 ((wrap64 ((rd l1 2)-(rd l1 0)))*(wrap64 ((rd l1 2)-(rd l1 0)))))+(wrap64 ((wrap64 ((rd l1 3)-(rd l1 1)))*(wrap64 ((rd l1 3)-(rd l1 1))))))) t157 _ A10.out).mono ?_);rintro e w' ⟨rfl,⟨nd,rfl⟩⟩;refine ⟨_,rfl,?_⟩))
      go_ret
      exact ⟨by first|rfl|(simp [errW_none,errW_some] <;> rfl)|(simp [*,errW_none,errW_some] <;> rfl),by repeat first|(with_reducible first|exact HB.out|apply lA_|apply lN_|apply lD_)|exact HB.out⟩
     rw [if_neg c9] at H
     exact absurd H (by simp)
    rw [if_neg c8] at H
    exact absurd H (by simp)
   rw [if_neg c7] at H
   exact absurd H (by simp)
  rw [if_neg c6] at H
  exact absurd H (by simp)
 rw [if_neg c5] at H;have c5b0:(a0==1)=false:=beq_eq_false_iff_ne.mpr c5;have c5b1:(a0 != 1)=true:=bne_iff_ne.mpr c5;by_cases c12:a0=3
 ·rw [if_pos c12] at H
  have c12b0:=beq_iff_eq.mpr c12;have c12b1:=bne_eq_false_iff_eq.mpr c12;clear c12;replace H:=Option.bind_eq_some_iff.mp H;obtain ⟨t158,A130,H⟩:=H
  replace H:(if 2<(l1.length:Int) then ((gr_modulo.f (wrap64 (t158-(rd l1 2))) 65536).bind fun t160=>(some t160)) else (none))=some r:=H
  have A13:=Aside0.mk A130;clear A130;by_cases c14:2<(l1.length:Int)
  ·rw [if_pos c14] at H
   have c14b0:=decide_eq_true c14
   have c14b1:decide (2<l1.length)=true:=decide_eq_true (by omega)
   clear c14;replace H:=Option.bind_eq_some_iff.mp H;obtain ⟨t160,A150,H⟩:=H;replace H:(some t160)=some r:=H;have A15:=Aside0.mk A150;clear A150;obtain rfl:=Option.some.inj H
   go_enter Try.func41,Try.ntmps41
   try go_wp2
   have n0_:=Aside0.mk (below_drew1 HB.out);clear HB;have HB:=n0_;clear n0_
   have p159:0≤(2:Int):=(by omega)
   have q159:2<(l1.length:Int):=of_decide_eq_true (by first|(with_reducible assumption)|assumption)
   obtain ⟨ad159,e159,hx159_0⟩:=Kd.at_int HR1.out 2 p159 q159;have hw159_0:=hx159_0
   (try rw [show ((2:Int)).toNat=2 from rfl] at hw159_0)
   (try rw [show 2*1=2 from rfl] at hw159_0)
   (try simp only [Nat.reduceMul,Nat.reduceEqDiff,Go.Addr.add,↓reduceIte] at hw159_0)
   cases e159
   (try simp only [show (2:Int).toNat=2 from rfl,Nat.reduceMul,Nat.reduceEqDiff,Go.Addr.add,↓reduceIte] at hx159_0)
   have qi159:(2<l1.length)=True:=eq_true (by omega)
   (try rw [show ((2:Int)).toNat=2 from rfl] at hx159_0)
   replace hx159_0:=(HB.out.cell (World.block_lt_of_cell? w _ hx159_0)).trans hx159_0;replace p159:=eq_true p159;replace q159:=eq_true q159
   refine start_ (n:=9) (S:=fun w'=>w'.cell? ⟨ad159.block,ad159.off+2,none⟩=some (.int .i64 (rd l1 2))) (ds:=[]) #[F_,F_,F_,F_,F_,F_,F_,F_,F_] (by kernel_rfl) rfl rfl (((HB.out.cell (World.block_lt_of_cell? w _ hw159_0)).trans hw159_0)) (fun hHeld=>?_);refine with_tabW gr_along.tab6 gr_along.bits6 (fun HT_ HW_=>?_)
   generalize w.drew=w16 at HB hx159_0 hHeld ⊢
   refine pure_ (i:=0) (N:=some 46) (v:=?_) (a':=?_) #[T_,F_,F_,F_,F_,F_,F_,F_,F_] rfl rfl (any_of HT_.out (by kernel_rfl)) (fun _ _ _ h=>h) (Or.inl ⟨by rfl,?_⟩) ?_ ?_
   rotate_left
   ·intro w'
    go_simp
    with_reducible rfl
   rotate_left
   ·simp only [Act.put,tS_,tZ_,tC_,i64_w,i32_w]
    rfl
   refine pure_ (i:=1) (N:=some 47) (v:=?_) (a':=?_) #[T_,T_,F_,F_,F_,F_,F_,F_,F_] rfl rfl (any_of HT_.out (by kernel_rfl)) (fun _ _ _ h=>h) (Or.inl ⟨by rfl,?_⟩) ?_ ?_
   rotate_left
   ·intro w'
    go_simp
    with_reducible rfl
   rotate_left
   ·simp only [Act.put,tS_,tZ_,tC_,i64_w,i32_w]
    rfl
   refine pure_ (i:=3) (N:=some 49) (v:=?_) (a':=?_) #[T_,T_,F_,T_,F_,F_,F_,F_,F_] rfl rfl (any_of HT_.out (by kernel_rfl)) (fun _ _ _ h=>h) (Or.inl ⟨by rfl,?_⟩) ?_ ?_
   rotate_left
   ·intro w'
    go_simp
    with_reducible rfl
   rotate_left
   ·simp only [Act.put,tS_,tZ_,tC_,i64_w,i32_w]
    rfl
   refine pure_ (i:=4) (N:=some 50) (v:=?_) (a':=?_) #[T_,T_,F_,T_,T_,F_,F_,F_,F_] rfl rfl (any_of HT_.out (by kernel_rfl)) (fun _ _ _ h=>h) (Or.inl ⟨by rfl,?_⟩) ?_ ?_
   rotate_left
   ·intro w'
    go_simp
    with_reducible rfl
   rotate_left
   ·simp only [Act.put,tS_,tZ_,tC_,i64_w,i32_w]
    rfl
   refine take_ (i:=5) (N:=some 51) (v:=?_) (a':=?_) #[T_,T_,F_,T_,T_,T_,F_,F_,F_] rfl rfl (take_ofW HT_.out HW_.out (by kernel_rfl)) (fun _ _ _ h=>h) (Or.inl ⟨by rfl,?_⟩) hHeld ?_ ?_
   rotate_left
   ·intro w' s0
    go_simp
    with_reducible rfl
   rotate_left
   ·simp only [Act.put,tS_,tZ_,tC_,i64_w,i32_w]
    rfl
   refine one_ (i:=2) (N:=some 48) #[T_,T_,T_,T_,T_,T_,F_,F_,F_] rfl rfl (one_of HT_.out (by kernel_rfl)) (by decide) (fun K hK=>?_)
   refine goes_ Try.func54 (by kernel_rfl) rfl #[.int .i64 a2,.int .i64 a3] (by rfl) rfl rfl (by (try simp only [mA_,mC_,mN_]);first|done|rfl|(simp only [dL_,kL_];rfl)) ?_
   with_reducible refine (gr_angle.calls k a2 a3 t158 _ A13.out).mono ?_
   rintro e w17 ⟨rfl,hb⟩;refine ⟨_,rfl,?_⟩
   have n0_:=Aside0.mk (below_step (by repeat first|(with_reducible first|exact HB.out|apply lA_|apply lN_|apply lD_)|exact HB.out) hb)
   clear HB;have HB:=n0_;clear n0_
   (try clear hb)
   (try clear hb2)
   (try clear hk)
   (try clear hi)
   refine hK.out _ _ (((HB.out.cell (World.block_lt_of_cell? w _ hw159_0)).trans hw159_0)) (fun hHeld=>?_)
   clear hK K;refine norm_ (a':=?_) ?_ ?_;rotate_left
   ·show Act.put _ (some 48) _=_
    simp only [Act.put,tS_,tZ_,tC_,i64_w,i32_w];rfl
   refine pure_ (i:=6) (N:=some 52) (v:=?_) (a':=?_) #[T_,T_,T_,T_,T_,T_,T_,F_,F_] rfl rfl (any_of HT_.out (by kernel_rfl)) (fun _ _ _ h=>h) (Or.inl ⟨by rfl,?_⟩) ?_ ?_
   rotate_left
   ·intro w'
    go_simp
    with_reducible rfl
   rotate_left
   ·simp only [Act.put,tS_,tZ_,tC_,i64_w,i32_w]
    rfl
   refine one_ (i:=7) (N:=some 53) #[T_,T_,T_,T_,T_,T_,T_,T_,F_] rfl rfl (one_of HT_.out (by kernel_rfl)) (by decide) (fun K hK=>?_)
   refine goes_ Try.func42 (by kernel_rfl) rfl #[.int .i64 (wrap64 (t158-(rd l1 2))),.int .i64 65536] (by rfl) rfl rfl (by (try simp only [mA_,mC_,mN_]);first|done|rfl|(simp only [dL_,kL_];rfl)) ?_
   with_reducible refine (gr_modulo.calls (wrap64 (t158-(rd l1 2))) 65536 t160 _ A15.out).mono ?_
   rintro e w' ⟨rfl,⟨nd,rfl⟩⟩;refine ⟨_,rfl,?_⟩
   refine hK.out _ _ (((HB.out.cell (World.block_lt_of_cell? w _ hw159_0)).trans hw159_0)) (fun hHeld=>?_)
   clear hK K;refine norm_ (a':=?_) ?_ ?_;rotate_left
   ·show Act.put _ (some 53) _=_
    simp only [Act.put,tS_,tZ_,tC_,i64_w,i32_w];rfl
   refine pure_ (i:=8) (N:=some 8) (v:=?_) (a':=?_) #[T_,T_,T_,T_,T_,T_,T_,T_,T_] rfl rfl (any_of HT_.out (by kernel_rfl)) (fun _ _ _ h=>h) (Or.inl ⟨by rfl,?_⟩) ?_ ?_
   rotate_left
   ·intro w'
    go_simp
    with_reducible rfl
   rotate_left
   ·simp only [Act.put,tS_,tZ_,tC_,i64_w,i32_w]
    rfl
   refine done_ (done_of HT_.out (by kernel_rfl)) ?_
   try go_wp2
   go_ret
   exact ⟨by first|rfl|(simp [errW_none,errW_some] <;> rfl)|(simp [*,errW_none,errW_some] <;> rfl),by repeat first|(with_reducible first|exact HB.out|apply lA_|apply lN_|apply lD_)|exact HB.out⟩
  rw [if_neg c14] at H
  exact absurd H (by simp)
 rw [if_neg c12] at H;have c12b0:(a0==3)=false:=beq_eq_false_iff_ne.mpr c12;have c12b1:(a0 != 3)=true:=bne_iff_ne.mpr c12;by_cases c18:2<(l1.length:Int)
 ·rw [if_pos c18] at H
  have c18b0:=decide_eq_true c18
  have c18b1:decide (2<l1.length)=true:=decide_eq_true (by omega)
  clear c18;by_cases c19:(rd l1 2)=0
  ·rw [if_pos c19] at H
   have c19b0:=beq_iff_eq.mpr c19;have c19b1:=bne_eq_false_iff_eq.mpr c19;clear c19;obtain rfl:=Option.some.inj H
   have p161:0≤(2:Int):=(by omega)
   have q161:2<(l1.length:Int):=of_decide_eq_true (by first|(with_reducible assumption)|assumption)
   obtain ⟨ad161,e161,hx161_0⟩:=Kd.at_int HR1.out 2 p161 q161;cases e161
   (try simp only [show (2:Int).toNat=2 from rfl,Nat.reduceMul,Nat.reduceEqDiff,Go.Addr.add,↓reduceIte] at hx161_0)
   have qi161:(2<l1.length)=True:=eq_true (by omega)
   (try rw [show ((2:Int)).toNat=2 from rfl] at hx161_0)
   replace p161:=eq_true p161;replace q161:=eq_true q161
   go_enter Try.func41,Try.ntmps41
   go_wp2
   go_ret
   exact ⟨by first|rfl|(simp [errW_none,errW_some] <;> rfl)|(simp [*,errW_none,errW_some] <;> rfl),by repeat first|(with_reducible first|exact HB.out|apply lA_|apply lN_|apply lD_)|exact HB.out⟩
  rw [if_neg c19] at H;have c19b0:((rd l1 2)==0)=false:=beq_eq_false_iff_ne.mpr c19;have c19b1:((rd l1 2) != 0)=true:=bne_iff_ne.mpr c19;by_cases c20:a0=4
  ·rw [if_pos c20] at H
   have c20b0:=beq_iff_eq.mpr c20;have c20b1:=bne_eq_false_iff_eq.mpr c20;clear c20;replace H:=Option.bind_eq_some_iff.mp H;obtain ⟨t162,A210,H⟩:=H
   replace H:((gr_abs.f a3).bind fun t163=>((num_Div.f k (wrap64 (65535*(wrap64 (t162+t163)))) (rd l1 2)).bind fun t165=>(some t165)))=some r:=H
   have A21:=Aside0.mk A210;clear A210;replace H:=Option.bind_eq_some_iff.mp H;obtain ⟨t163,A220,H⟩:=H
   replace H:((num_Div.f k (wrap64 (65535*(wrap64 (t162+t163)))) (rd l1 2)).bind fun t165=>(some t165))=some r:=H
   have A22:=Aside0.mk A220;clear A220;replace H:=Option.bind_eq_some_iff.mp H;obtain ⟨t165,A230,H⟩:=H;replace H:(some t165)=some r:=H;have A23:=Aside0.mk A230;clear A230;obtain rfl:=Option.some.inj H
   have p161:0≤(2:Int):=(by omega)
   have q161:2<(l1.length:Int):=of_decide_eq_true (by first|(with_reducible assumption)|assumption)
   obtain ⟨ad161,e161,hx161_0⟩:=Kd.at_int HR1.out 2 p161 q161;cases e161
   (try simp only [show (2:Int).toNat=2 from rfl,Nat.reduceMul,Nat.reduceEqDiff,Go.Addr.add,↓reduceIte] at hx161_0)
   have qi161:(2<l1.length)=True:=eq_true (by omega)
   (try rw [show ((2:Int)).toNat=2 from rfl] at hx161_0)
   replace p161:=eq_true p161;replace q161:=eq_true q161
   go_enter Try.func41,Try.ntmps41
   try go_wp2
   have n0_:=Aside0.mk (below_drew1 HB.out);clear HB;have HB:=n0_;clear n0_
   have p164:0≤(2:Int):=(by omega)
   have q164:2<(l1.length:Int):=of_decide_eq_true (by first|(with_reducible assumption)|assumption)
   obtain ⟨ad164,e164,hx164_0⟩:=Kd.at_int HR1.out 2 p164 q164;have hw164_0:=hx164_0
   (try rw [show ((2:Int)).toNat=2 from rfl] at hw164_0)
   (try rw [show 2*1=2 from rfl] at hw164_0)
   (try simp only [Nat.reduceMul,Nat.reduceEqDiff,Go.Addr.add,↓reduceIte] at hw164_0)
   obtain rfl:ad161=ad164:=(by injection e164)
   (try simp only [show (2:Int).toNat=2 from rfl,Nat.reduceMul,Nat.reduceEqDiff,Go.Addr.add,↓reduceIte] at hx164_0)
   have qi164:(2<l1.length)=True:=eq_true (by omega)
   (try rw [show ((2:Int)).toNat=2 from rfl] at hx164_0)
   replace hx164_0:=(HB.out.cell (World.block_lt_of_cell? w _ hx164_0)).trans hx164_0;replace p164:=eq_true p164;replace q164:=eq_true q164
   refine start_ (n:=11) (S:=fun w'=>w'.cell? ⟨ad161.block,ad161.off+2,none⟩=some (.int .i64 (rd l1 2))) (ds:=[]) #[F_,F_,F_,F_,F_,F_,F_,F_,F_,F_,F_] (by kernel_rfl) rfl rfl (((HB.out.cell (World.block_lt_of_cell? w _ hw164_0)).trans hw164_0)) (fun hHeld=>?_);refine with_tabW gr_along.tab10 gr_along.bits10 (fun HT_ HW_=>?_)
   generalize w.drew=w24 at HB hx164_0 hHeld ⊢
   refine pure_ (i:=0) (N:=some 60) (v:=?_) (a':=?_) #[T_,F_,F_,F_,F_,F_,F_,F_,F_,F_,F_] rfl rfl (any_of HT_.out (by kernel_rfl)) (fun _ _ _ h=>h) (Or.inl ⟨by rfl,?_⟩) ?_ ?_
   rotate_left
   ·intro w'
    go_simp
    with_reducible rfl
   rotate_left
   ·simp only [Act.put,tS_,tZ_,tC_,i64_w,i32_w]
    rfl
   refine pure_ (i:=2) (N:=some 62) (v:=?_) (a':=?_) #[T_,F_,T_,F_,F_,F_,F_,F_,F_,F_,F_] rfl rfl (any_of HT_.out (by kernel_rfl)) (fun _ _ _ h=>h) (Or.inl ⟨by rfl,?_⟩) ?_ ?_
   rotate_left
   ·intro w'
    go_simp
    with_reducible rfl
   rotate_left
   ·simp only [Act.put,tS_,tZ_,tC_,i64_w,i32_w]
    rfl
   refine pure_ (i:=6) (N:=some 66) (v:=?_) (a':=?_) #[T_,F_,T_,F_,F_,F_,T_,F_,F_,F_,F_] rfl rfl (any_of HT_.out (by kernel_rfl)) (fun _ _ _ h=>h) (Or.inl ⟨by rfl,?_⟩) ?_ ?_
   rotate_left
   ·intro w'
    go_simp
    with_reducible rfl
   rotate_left
   ·simp only [Act.put,tS_,tZ_,tC_,i64_w,i32_w]
    rfl
   refine pure_ (i:=7) (N:=some 67) (v:=?_) (a':=?_) #[T_,F_,T_,F_,F_,F_,T_,T_,F_,F_,F_] rfl rfl (any_of HT_.out (by kernel_rfl)) (fun _ _ _ h=>h) (Or.inl ⟨by rfl,?_⟩) ?_ ?_
   rotate_left
   ·intro w'
    go_simp
    with_reducible rfl
   rotate_left
   ·simp only [Act.put,tS_,tZ_,tC_,i64_w,i32_w]
    rfl
   refine take_ (i:=8) (N:=some 68) (v:=?_) (a':=?_) #[T_,F_,T_,F_,F_,F_,T_,T_,T_,F_,F_] rfl rfl (take_ofW HT_.out HW_.out (by kernel_rfl)) (fun _ _ _ h=>h) (Or.inl ⟨by rfl,?_⟩) hHeld ?_ ?_
   rotate_left
   ·intro w' s0
    go_simp
    with_reducible rfl
   rotate_left
   ·simp only [Act.put,tS_,tZ_,tC_,i64_w,i32_w]
    rfl
   refine one_ (i:=1) (N:=some 61) #[T_,T_,T_,F_,F_,F_,T_,T_,T_,F_,F_] rfl rfl (one_of HT_.out (by kernel_rfl)) (by decide) (fun K hK=>?_)
   refine goes_ Try.func55 (by kernel_rfl) rfl #[.int .i64 a2] (by rfl) rfl rfl (by (try simp only [mA_,mC_,mN_]);first|done|rfl|(simp only [dL_,kL_];rfl)) ?_
   with_reducible refine (gr_abs.calls a2 t162 _ A21.out).mono ?_
   rintro e w25 ⟨rfl,hb⟩;refine ⟨_,rfl,?_⟩
   have n0_:=Aside0.mk (below_step (by repeat first|(with_reducible first|exact HB.out|apply lA_|apply lN_|apply lD_)|exact HB.out) hb)
   clear HB;have HB:=n0_;clear n0_
   (try clear hb)
   (try clear hb2)
   (try clear hk)
   (try clear hi)
   refine hK.out _ _ (((HB.out.cell (World.block_lt_of_cell? w _ hw164_0)).trans hw164_0)) (fun hHeld=>?_)
   clear hK K;refine norm_ (a':=?_) ?_ ?_;rotate_left
   ·show Act.put _ (some 61) _=_
    simp only [Act.put,tS_,tZ_,tC_,i64_w,i32_w];rfl
   refine one_ (i:=3) (N:=some 63) #[T_,T_,T_,T_,F_,F_,T_,T_,T_,F_,F_] rfl rfl (one_of HT_.out (by kernel_rfl)) (by decide) (fun K hK=>?_)
   refine goes_ Try.func55 (by kernel_rfl) rfl #[.int .i64 a3] (by rfl) rfl rfl (by (try simp only [mA_,mC_,mN_]);first|done|rfl|(simp only [dL_,kL_];rfl)) ?_
   with_reducible refine (gr_abs.calls a3 t163 _ A22.out).mono ?_
   rintro e w26 ⟨rfl,hb⟩;refine ⟨_,rfl,?_⟩
   have n0_:=Aside0.mk (below_step (by repeat first|(with_reducible first|exact HB.out|apply lA_|apply lN_|apply lD_)|exact HB.out) hb)
   clear HB;have HB:=n0_;clear n0_
   (try clear hb)
   (try clear hb2)
   (try clear hk)
   (try clear hi)
   refine hK.out _ _ (((HB.out.cell (World.block_lt_of_cell? w _ hw164_0)).trans hw164_0)) (fun hHeld=>?_)
   clear hK K;refine norm_ (a':=?_) ?_ ?_;rotate_left
   ·show Act.put _ (some 63) _=_
    simp only [Act.put,tS_,tZ_,tC_,i64_w,i32_w];rfl
   refine pure_ (i:=4) (N:=some 64) (v:=?_) (a':=?_) #[T_,T_,T_,T_,T_,F_,T_,T_,T_,F_,F_] rfl rfl (any_of HT_.out (by kernel_rfl)) (fun _ _ _ h=>h) (Or.inl ⟨by rfl,?_⟩) ?_ ?_
   rotate_left
   ·intro w'
    go_simp
    with_reducible rfl
   rotate_left
   ·simp only [Act.put,tS_,tZ_,tC_,i64_w,i32_w]
    rfl
   refine pure_ (i:=5) (N:=some 65) (v:=?_) (a':=?_) #[T_,T_,T_,T_,T_,T_,T_,T_,T_,F_,F_] rfl rfl (any_of HT_.out (by kernel_rfl)) (fun _ _ _ h=>h) (Or.inl ⟨by rfl,?_⟩) ?_ ?_
   rotate_left
   ·intro w'
    go_simp
    with_reducible rfl
   rotate_left
   ·simp only [Act.put,tS_,tZ_,tC_,i64_w,i32_w]
    rfl
   refine one_ (i:=9) (N:=some 69) #[T_,T_,T_,T_,T_,T_,T_,T_,T_,T_,F_] rfl rfl (one_of HT_.out (by kernel_rfl)) (by decide) (fun K hK=>?_)
   refine goes_ Try.func46 (by kernel_rfl) rfl #[.int .i64 (wrap64 (65535*(wrap64 (t162+t163)))),.int .i64 (rd l1 2)] (by rfl) rfl rfl (by (try simp only [mA_,mC_,mN_]);first|done|rfl|(simp only [dL_,kL_];rfl)) ?_
   with_reducible refine (num_Div.calls k (wrap64 (65535*(wrap64 (t162+t163)))) (rd l1 2) t165 _ A23.out).mono ?_
   rintro e w' ⟨rfl,⟨nd,rfl⟩⟩;refine ⟨_,rfl,?_⟩
   refine hK.out _ _ (((HB.out.cell (World.block_lt_of_cell? w _ hw164_0)).trans hw164_0)) (fun hHeld=>?_)
   clear hK K;refine norm_ (a':=?_) ?_ ?_;rotate_left
   ·show Act.put _ (some 69) _=_
    simp only [Act.put,tS_,tZ_,tC_,i64_w,i32_w];rfl
   refine pure_ (i:=10) (N:=some 8) (v:=?_) (a':=?_) #[T_,T_,T_,T_,T_,T_,T_,T_,T_,T_,T_] rfl rfl (any_of HT_.out (by kernel_rfl)) (fun _ _ _ h=>h) (Or.inl ⟨by rfl,?_⟩) ?_ ?_
   rotate_left
   ·intro w'
    go_simp
    with_reducible rfl
   rotate_left
   ·simp only [Act.put,tS_,tZ_,tC_,i64_w,i32_w]
    rfl
   refine done_ (done_of HT_.out (by kernel_rfl)) ?_
   try go_wp2
   go_ret
   exact ⟨by first|rfl|(simp [errW_none,errW_some] <;> rfl)|(simp [*,errW_none,errW_some] <;> rfl),by repeat first|(with_reducible first|exact HB.out|apply lA_|apply lN_|apply lD_)|exact HB.out⟩
  rw [if_neg c20] at H;have c20b0:(a0==4)=false:=beq_eq_false_iff_ne.mpr c20;have c20b1:(a0 != 4)=true:=bne_iff_ne.mpr c20;replace H:=Option.bind_eq_some_iff.mp H;obtain ⟨t166,A270,H⟩:=H
  replace H:((num_Div.f k (wrap64 (65535*t166)) (wrap64 (16*(rd l1 2)))).bind fun t168=>(some t168))=some r:=H
  have A27:=Aside0.mk A270;clear A270;replace H:=Option.bind_eq_some_iff.mp H;obtain ⟨t168,A280,H⟩:=H;replace H:(some t168)=some r:=H;have A28:=Aside0.mk A280;clear A280;obtain rfl:=Option.some.inj H
  have p161:0≤(2:Int):=(by omega)
  have q161:2<(l1.length:Int):=of_decide_eq_true (by first|(with_reducible assumption)|assumption)
  obtain ⟨ad161,e161,hx161_0⟩:=Kd.at_int HR1.out 2 p161 q161;cases e161
  (try simp only [show (2:Int).toNat=2 from rfl,Nat.reduceMul,Nat.reduceEqDiff,Go.Addr.add,↓reduceIte] at hx161_0)
  have qi161:(2<l1.length)=True:=eq_true (by omega)
  (try rw [show ((2:Int)).toNat=2 from rfl] at hx161_0)
  replace p161:=eq_true p161;replace q161:=eq_true q161
  go_enter Try.func41,Try.ntmps41
  try go_wp2
  have n0_:=Aside0.mk (below_drew1 HB.out);clear HB;have HB:=n0_;clear n0_
  have p167:0≤(2:Int):=(by omega)
  have q167:2<(l1.length:Int):=of_decide_eq_true (by first|(with_reducible assumption)|assumption)
  obtain ⟨ad167,e167,hx167_0⟩:=Kd.at_int HR1.out 2 p167 q167;have hw167_0:=hx167_0
  (try rw [show ((2:Int)).toNat=2 from rfl] at hw167_0)
  (try rw [show 2*1=2 from rfl] at hw167_0)
  (try simp only [Nat.reduceMul,Nat.reduceEqDiff,Go.Addr.add,↓reduceIte] at hw167_0)
  obtain rfl:ad161=ad167:=(by injection e167)
  (try simp only [show (2:Int).toNat=2 from rfl,Nat.reduceMul,Nat.reduceEqDiff,Go.Addr.add,↓reduceIte] at hx167_0)
  have qi167:(2<l1.length)=True:=eq_true (by omega)
  (try rw [show ((2:Int)).toNat=2 from rfl] at hx167_0)
  replace hx167_0:=(HB.out.cell (World.block_lt_of_cell? w _ hx167_0)).trans hx167_0;replace p167:=eq_true p167;replace q167:=eq_true q167
  refine start_ (n:=12) (S:=fun w'=>w'.cell? ⟨ad161.block,ad161.off+2,none⟩=some (.int .i64 (rd l1 2))) (ds:=[]) #[F_,F_,F_,F_,F_,F_,F_,F_,F_,F_,F_,F_] (by kernel_rfl) rfl rfl (((HB.out.cell (World.block_lt_of_cell? w _ hw167_0)).trans hw167_0)) (fun hHeld=>?_);refine with_tabW gr_along.tab11 gr_along.bits11 (fun HT_ HW_=>?_)
  generalize w.drew=w29 at HB hx167_0 hHeld ⊢
  refine pure_ (i:=0) (N:=some 70) (v:=?_) (a':=?_) #[T_,F_,F_,F_,F_,F_,F_,F_,F_,F_,F_,F_] rfl rfl (any_of HT_.out (by kernel_rfl)) (fun _ _ _ h=>h) (Or.inl ⟨by rfl,?_⟩) ?_ ?_
  rotate_left
  ·intro w'
   go_simp
   with_reducible rfl
  rotate_left
  ·simp only [Act.put,tS_,tZ_,tC_,i64_w,i32_w]
   rfl
  refine pure_ (i:=1) (N:=some 71) (v:=?_) (a':=?_) #[T_,T_,F_,F_,F_,F_,F_,F_,F_,F_,F_,F_] rfl rfl (any_of HT_.out (by kernel_rfl)) (fun _ _ _ h=>h) (Or.inl ⟨by rfl,?_⟩) ?_ ?_
  rotate_left
  ·intro w'
   go_simp
   with_reducible rfl
  rotate_left
  ·simp only [Act.put,tS_,tZ_,tC_,i64_w,i32_w]
   rfl
  refine pure_ (i:=2) (N:=some 72) (v:=?_) (a':=?_) #[T_,T_,T_,F_,F_,F_,F_,F_,F_,F_,F_,F_] rfl rfl (any_of HT_.out (by kernel_rfl)) (fun _ _ _ h=>h) (Or.inl ⟨by rfl,?_⟩) ?_ ?_
  rotate_left
  ·intro w'
   go_simp
   with_reducible rfl
  rotate_left
  ·simp only [Act.put,tS_,tZ_,tC_,i64_w,i32_w]
   rfl
  refine pure_ (i:=3) (N:=some 73) (v:=?_) (a':=?_) #[T_,T_,T_,T_,F_,F_,F_,F_,F_,F_,F_,F_] rfl rfl (any_of HT_.out (by kernel_rfl)) (fun _ _ _ h=>h) (Or.inl ⟨by rfl,?_⟩) ?_ ?_
  rotate_left
  ·intro w'
   go_simp
   with_reducible rfl
  rotate_left
  ·simp only [Act.put,tS_,tZ_,tC_,i64_w,i32_w]
   rfl
  refine pure_ (i:=6) (N:=some 76) (v:=?_) (a':=?_) #[T_,T_,T_,T_,F_,F_,T_,F_,F_,F_,F_,F_] rfl rfl (any_of HT_.out (by kernel_rfl)) (fun _ _ _ h=>h) (Or.inl ⟨by rfl,?_⟩) ?_ ?_
  rotate_left
  ·intro w'
   go_simp
   with_reducible rfl
  rotate_left
  ·simp only [Act.put,tS_,tZ_,tC_,i64_w,i32_w]
   rfl
  refine pure_ (i:=7) (N:=some 77) (v:=?_) (a':=?_) #[T_,T_,T_,T_,F_,F_,T_,T_,F_,F_,F_,F_] rfl rfl (any_of HT_.out (by kernel_rfl)) (fun _ _ _ h=>h) (Or.inl ⟨by rfl,?_⟩) ?_ ?_
  rotate_left
  ·intro w'
   go_simp
   with_reducible rfl
  rotate_left
  ·simp only [Act.put,tS_,tZ_,tC_,i64_w,i32_w]
   rfl
  refine take_ (i:=8) (N:=some 78) (v:=?_) (a':=?_) #[T_,T_,T_,T_,F_,F_,T_,T_,T_,F_,F_,F_] rfl rfl (take_ofW HT_.out HW_.out (by kernel_rfl)) (fun _ _ _ h=>h) (Or.inl ⟨by rfl,?_⟩) hHeld ?_ ?_
  rotate_left
  ·intro w' s0
   go_simp
   with_reducible rfl
  rotate_left
  ·simp only [Act.put,tS_,tZ_,tC_,i64_w,i32_w]
   rfl
  refine pure_ (i:=9) (N:=some 79) (v:=?_) (a':=?_) #[T_,T_,T_,T_,F_,F_,T_,T_,T_,T_,F_,F_] rfl rfl (any_of HT_.out (by kernel_rfl)) (fun _ _ _ h=>h) (Or.inl ⟨by rfl,?_⟩) ?_ ?_
  rotate_left
  ·intro w'
   go_simp
   with_reducible rfl
  rotate_left
  ·simp only [Act.put,tS_,tZ_,tC_,i64_w,i32_w]
   rfl
  refine one_ (i:=4) (N:=some 74) #[T_,T_,T_,T_,T_,F_,T_,T_,T_,T_,F_,F_] rfl rfl (one_of HT_.out (by kernel_rfl)) (by decide) (fun K hK=>?_)
  refine goes_ Try.func56 (by kernel_rfl) rfl #[.int .i64 (wrap64 (16*a2)),.int .i64 (wrap64 (16*a3))] (by rfl) rfl rfl (by (try simp only [mA_,mC_,mN_]);first|done|rfl|(simp only [dL_,kL_];rfl)) ?_
  with_reducible refine (num_Hypot.calls k (wrap64 (16*a2)) (wrap64 (16*a3)) t166 _ A27.out).mono ?_
  rintro e w' ⟨rfl,⟨nd,rfl⟩⟩;refine ⟨_,rfl,?_⟩
  refine hK.out _ _ (((HB.out.cell (World.block_lt_of_cell? w _ hw167_0)).trans hw167_0)) (fun hHeld=>?_)
  clear hK K;refine norm_ (a':=?_) ?_ ?_;rotate_left
  ·show Act.put _ (some 74) _=_
   simp only [Act.put,tS_,tZ_,tC_,i64_w,i32_w];rfl
  refine pure_ (i:=5) (N:=some 75) (v:=?_) (a':=?_) #[T_,T_,T_,T_,T_,T_,T_,T_,T_,T_,F_,F_] rfl rfl (any_of HT_.out (by kernel_rfl)) (fun _ _ _ h=>h) (Or.inl ⟨by rfl,?_⟩) ?_ ?_
  rotate_left
  ·intro w'
   go_simp
   with_reducible rfl
  rotate_left
  ·simp only [Act.put,tS_,tZ_,tC_,i64_w,i32_w]
   rfl
  refine one_ (i:=10) (N:=some 80) #[T_,T_,T_,T_,T_,T_,T_,T_,T_,T_,T_,F_] rfl rfl (one_of HT_.out (by kernel_rfl)) (by decide) (fun K hK=>?_)
  refine goes_ Try.func46 (by kernel_rfl) rfl #[.int .i64 (wrap64 (65535*t166)),.int .i64 (wrap64 (16*(rd l1 2)))] (by rfl) rfl rfl (by (try simp only [mA_,mC_,mN_]);first|done|rfl|(simp only [dL_,kL_];rfl)) ?_
  with_reducible refine (num_Div.calls k (wrap64 (65535*t166)) (wrap64 (16*(rd l1 2))) t168 _ A28.out).mono ?_
  rintro e w' ⟨rfl,⟨nd,rfl⟩⟩;refine ⟨_,rfl,?_⟩
  refine hK.out _ _ (((HB.out.cell (World.block_lt_of_cell? w _ hw167_0)).trans hw167_0)) (fun hHeld=>?_)
  clear hK K;refine norm_ (a':=?_) ?_ ?_;rotate_left
  ·show Act.put _ (some 80) _=_
   simp only [Act.put,tS_,tZ_,tC_,i64_w,i32_w];rfl
  refine pure_ (i:=11) (N:=some 8) (v:=?_) (a':=?_) #[T_,T_,T_,T_,T_,T_,T_,T_,T_,T_,T_,T_] rfl rfl (any_of HT_.out (by kernel_rfl)) (fun _ _ _ h=>h) (Or.inl ⟨by rfl,?_⟩) ?_ ?_
  rotate_left
  ·intro w'
   go_simp
   with_reducible rfl
  rotate_left
  ·simp only [Act.put,tS_,tZ_,tC_,i64_w,i32_w]
   rfl
  refine done_ (done_of HT_.out (by kernel_rfl)) ?_
  try go_wp2
  go_ret
  exact ⟨by first|rfl|(simp [errW_none,errW_some] <;> rfl)|(simp [*,errW_none,errW_some] <;> rfl),by repeat first|(with_reducible first|exact HB.out|apply lA_|apply lN_|apply lD_)|exact HB.out⟩
 rw [if_neg c18] at H
 exact absurd H (by simp)

end Go.Proofs.Ytmlcobnidfkhfaa.Q
