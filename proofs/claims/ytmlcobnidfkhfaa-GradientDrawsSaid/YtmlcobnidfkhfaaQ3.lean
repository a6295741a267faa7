/- Each Go function of the law as a Lean function, with the proof that its call comes to just that, for every input; written by hp.py, a program of this session over the kit own print of the translation. -/
import Derived.Test.YtmlcobnidfkhfaaQ0
import Derived.Test.YtmlcobnidfkhfaaQ2
namespace Go.Proofs.Ytmlcobnidfkhfaa.Q
open Go.RowKit Go.Proofs.YtmlcobnidfkhfaaW.PrintWords Go.Proofs.YtmlcobnidfkhfaaW.PrintLast Go.Proofs.YtmlcobnidfkhfaaW.PrintMore
attribute [local go_sem] max2_int min2_int max_two min_two max_three min_three max_four min_four   -- for this text's walks alone
set_option linter.unusedVariables false
set_option linter.unusedSimpArgs false
open Go.Proofs.Ytmlcobnidfkhfaa.Clo Go.Proofs.Ytmlcobnidfkhfaa.Mk0

/-! ### r18_head: function 23 -/
def r18_head.j0:Nat→Int→List Int→Bool→Option (Int)
 | 0,_,_,_=>none
 | k+1,x0,x1,x20=>if x20=true then (some 8) else (if x0=1 then (if (x1.length:Int)=4 then (some 0) else (some 1)) else (if (x1.length:Int)=3 then (some 0) else (some 1)))
def r18_head.f (k:Nat) (a0:Int) (l1:List Int) (a2:Int):Option (Int):=if a0<1 then (r18_head.j0 k a0 l1 true) else (if a0>4 then (r18_head.j0 k a0 l1 true) else (if a2<0 then (r18_head.j0 k a0 l1 true) else (r18_head.j0 k a0 l1 (decide (a2>2)))))
theorem r18_head.mono_l:∀ k,(∀ y0 y1 y2,LeO (r18_head.j0 k y0 y1 y2) (r18_head.j0 (k+1) y0 y1 y2))
 | 0=>fun _ _ _ r h=>by simp [r18_head.j0] at h
 | k+1=>by
  have ih0:=r18_head.mono_l k
  ·intro y0 y1 y2
   unfold r18_head.j0
   repeat' first
   | (with_reducible exact ih0 _ _ _)
   | (with_reducible exact LeO.refl _)
   | (with_reducible exact LeO.none _)
   | (with_reducible refine LeO.ite ?_ ?_)
   | (with_reducible refine LeO.bind ?_ (fun _=>?_))
theorem r18_head.mono:∀ a0 a1 a2 k,LeO (r18_head.f k a0 a1 a2) (r18_head.f (k+1) a0 a1 a2):=by
 intro a0 a1 a2 k;have ih0:=r18_head.mono_l k
 unfold r18_head.f
 repeat' first
   | (with_reducible exact ih0 _ _ _)
   | (with_reducible exact LeO.refl _)
   | (with_reducible exact LeO.none _)
   | (with_reducible refine LeO.ite ?_ ?_)
   | (with_reducible refine LeO.bind ?_ (fun _=>?_))
set_option maxHeartbeats 8000000 in
set_option maxRecDepth 100000 in
theorem r18_head.calls (k:Nat) (a0:Int) (A1:Option Addr) (c1:Nat) (l1:List Int) (a2:Int) (r:Int) (w:World) (hr1:Kd.C (Kd.int .i64) w A1 l1.length l1) (hc1:l1.length≤c1) (h:r18_head.f k a0 l1 a2=some r) :
  Calls Try.prog 23 #[.int .i64 a0,.slice A1 l1.length c1,.int .i64 a2] w fun e w'=>e = .returned (.int .i64 r)∧Drawn0 w w':=by
 have HR1:=Aside0.mk hr1;have HC1:=Aside0.mk hc1;clear hr1 hc1
 have H:(if a0<1 then (r18_head.j0 k a0 l1 true) else (if a0>4 then (r18_head.j0 k a0 l1 true) else (if a2<0 then (r18_head.j0 k a0 l1 true) else (r18_head.j0 k a0 l1 (decide (a2>2))))))=some r:=h
 clear h;have HC4:=Aside0.mk H;clear H
 go_enter Try.func23,Try.ntmps23
 go_upto_region 1 with (fail)
 go_cut [20] (fun v20 wc=>∃ (kq:Nat) (x20_3:Bool),v20 = .bool x20_3∧Aside0 (r18_head.j0 kq a0 l1 x20_3=some r)∧Aside0 (kq≤k)∧Drawn0 w wc)
 case first =>
  have H:=HC4.out;clear HC4;by_cases c5:a0<1
  ·rw [if_pos c5] at H
   have c5b0:=decide_eq_true c5;clear c5
   (first|rw [c5b0]|(simp only [i64_w,i32_w];rw [c5b0])|skip)
   have H':=Aside0.mk H;clear H
   go_wp2
   go_meet
   case rel=>exact ⟨_,(true),(by first|rfl|(simp;done)|(simp [*];done)),H',⟨by first|omega|exact Nat.le_refl _⟩,by repeat (first|exact Drawn0.refl _|apply Drawn0.step)⟩
  rw [if_neg c5] at H;have c5b0:=decide_eq_false c5;clear c5
  (first|rw [c5b0]|(simp only [i64_w,i32_w];rw [c5b0])|skip)
  by_cases c6:a0>4
  ·rw [if_pos c6] at H
   have c6b0:=decide_eq_true c6;clear c6;have H':=Aside0.mk H;clear H
   go_wp2
   go_meet
   case rel=>exact ⟨_,(true),(by first|rfl|(simp;done)|(simp [*];done)),H',⟨by first|omega|exact Nat.le_refl _⟩,by repeat (first|exact Drawn0.refl _|apply Drawn0.step)⟩
  rw [if_neg c6] at H;have c6b0:=decide_eq_false c6;clear c6;by_cases c7:a2<0
  ·rw [if_pos c7] at H
   have c7b0:=decide_eq_true c7;clear c7;have H':=Aside0.mk H;clear H
   go_wp2
   go_meet
   case rel=>exact ⟨_,(true),(by first|rfl|(simp;done)|(simp [*];done)),H',⟨by first|omega|exact Nat.le_refl _⟩,by repeat (first|exact Drawn0.refl _|apply Drawn0.step)⟩
  rw [if_neg c7] at H;have c7b0:=decide_eq_false c7;clear c7;have H':=Aside0.mk H;clear H
  go_wp2
  go_meet
  case rel=>exact ⟨_,(decide (a2>2)),(by first|rfl|(simp;done)|(simp [*];done)),H',⟨by first|omega|exact Nat.le_refl _⟩,by repeat (first|exact Drawn0.refl _|apply Drawn0.step)⟩
 case rest =>
  clear HC4;obtain ⟨kq,x20_3,rfl,HA,HJ3,⟨mc3,rfl⟩⟩:=hcut
  cases kq with
  | zero=>exact absurd HA.out (by simp [r18_head.j0])
  | succ kj3 =>
   have H:=HA.out;clear HA;simp only [r18_head.j0] at H;by_cases c8:x20_3=true
   ·subst c8
    have H1:(some 8)=some r:=by rw [if_pos rfl] at H;exact H
    clear H;have H:=H1;clear H1;obtain rfl:=Option.some.inj H
    go_wp2
    go_ret
    exact ⟨by first|rfl|(simp;done)|(simp [*];done),by repeat (first|exact Drawn0.refl _|apply Drawn0.step)⟩
   replace c8:=Bool.eq_false_iff.mpr c8;subst c8
   have H1:(if a0=1 then (if (l1.length:Int)=4 then (some 0) else (some 1)) else (if (l1.length:Int)=3 then (some 0) else (some 1)))=some r:=by rw [if_neg (show ¬ (false=true) by decide)] at H;exact H
   clear H;have H:=H1;clear H1;by_cases c9:a0=1
   ·rw [if_pos c9] at H
    have c9b0:=beq_iff_eq.mpr c9;have c9b1:=bne_eq_false_iff_eq.mpr c9;clear c9;by_cases c10:(l1.length:Int)=4
    ·rw [if_pos c10] at H
     have c10b0:=beq_iff_eq.mpr c10;have c10b1:=bne_eq_false_iff_eq.mpr c10;clear c10;obtain rfl:=Option.some.inj H
     go_wp2
     go_ret
     exact ⟨by first|rfl|(simp;done)|(simp [*];done),by repeat (first|exact Drawn0.refl _|apply Drawn0.step)⟩
    rw [if_neg c10] at H;have c10b0:((l1.length:Int)==4)=false:=beq_eq_false_iff_ne.mpr c10;have c10b1:((l1.length:Int) != 4)=true:=bne_iff_ne.mpr c10;obtain rfl:=Option.some.inj H
    go_wp2
    go_ret
    exact ⟨by first|rfl|(simp;done)|(simp [*];done),by repeat (first|exact Drawn0.refl _|apply Drawn0.step)⟩
   rw [if_neg c9] at H;have c9b0:(a0==1)=false:=beq_eq_false_iff_ne.mpr c9;have c9b1:(a0 != 1)=true:=bne_iff_ne.mpr c9;by_cases c11:(l1.length:Int)=3
   ·rw [if_pos c11] at H
    have c11b0:=beq_iff_eq.mpr c11;have c11b1:=bne_eq_false_iff_eq.mpr c11;clear c11;obtain rfl:=Option.some.inj H
    go_wp2
    go_ret
    exact ⟨by first|rfl|(simp;done)|(simp [*];done),by repeat (first|exact Drawn0.refl _|apply Drawn0.step)⟩
   rw [if_neg c11] at H;have c11b0:((l1.length:Int)==3)=false:=beq_eq_false_iff_ne.mpr c11;have c11b1:((l1.length:Int) != 3)=true:=bne_iff_ne.mpr c11;obtain rfl:=Option.some.inj H
   go_wp2
   go_ret
   exact ⟨by first|rfl|(simp;done)|(simp [*];done),by repeat (first|exact Drawn0.refl _|apply Drawn0.step)⟩

/-! ### r18_numbers: function 24 -/
def r18_numbers.l0:Nat→Int→List Int→Int→Int→Option (Int)
 | 0,_,_,_,_=>none
 | k+1,x0,x1,x7,x8=>if x8<x7 then (if 0≤x8 then (if x8<(x1.length:Int) then (if (rd x1 x8)<(-1048576) then (some 2) else (if (rd x1 x8)>1048576 then (some 2) else (r18_numbers.l0 k x0 x1 x7 (wrap64 (x8+1))))) else (none)) else (none)) else (if x0=2 then (if 2<(x1.length:Int) then (if (rd x1 2)<0 then (some 2) else (some 0)) else (none)) else (if x0=4 then (if 2<(x1.length:Int) then (if (rd x1 2)<0 then (some 2) else (some 0)) else (none)) else (some 0)))
def r18_numbers.f (k:Nat) (a0:Int) (l1:List Int):Option (Int):=r18_numbers.l0 k a0 l1 (l1.length:Int) 0
theorem r18_numbers.mono_l:∀ k,(∀ y0 y1 y2 y3,LeO (r18_numbers.l0 k y0 y1 y2 y3) (r18_numbers.l0 (k+1) y0 y1 y2 y3))
 | 0=>fun _ _ _ _ r h=>by simp [r18_numbers.l0] at h
 | k+1=>by
  have ih0:=r18_numbers.mono_l k
  ·intro y0 y1 y2 y3
   unfold r18_numbers.l0
   repeat' first
   | (with_reducible exact ih0 _ _ _ _)
   | (with_reducible exact LeO.refl _)
   | (with_reducible exact LeO.none _)
   | (with_reducible refine LeO.ite ?_ ?_)
   | (with_reducible refine LeO.bind ?_ (fun _=>?_))
theorem r18_numbers.mono:∀ a0 a1 k,LeO (r18_numbers.f k a0 a1) (r18_numbers.f (k+1) a0 a1):=by
 intro a0 a1 k;have ih0:=r18_numbers.mono_l k
 unfold r18_numbers.f
 repeat' first
   | (with_reducible exact ih0 _ _ _ _)
   | (with_reducible exact LeO.refl _)
   | (with_reducible exact LeO.none _)
   | (with_reducible refine LeO.ite ?_ ?_)
   | (with_reducible refine LeO.bind ?_ (fun _=>?_))
set_option maxHeartbeats 8000000 in
set_option maxRecDepth 100000 in
theorem r18_numbers.calls (k:Nat) (a0:Int) (A1:Option Addr) (c1:Nat) (l1:List Int) (r:Int) (w:World) (hr1:Kd.C (Kd.int .i64) w A1 l1.length l1) (hc1:l1.length≤c1) (h:r18_numbers.f k a0 l1=some r) :
  Calls Try.prog 24 #[.int .i64 a0,.slice A1 l1.length c1] w fun e w'=>e = .returned (.int .i64 r)∧Drawn0 w w':=by
 have HR1:=Aside0.mk hr1;have HC1:=Aside0.mk hc1;clear hr1 hc1;have H:(r18_numbers.l0 k a0 l1 (l1.length:Int) 0)=some r:=h;clear h;have H':=Aside0.mk H;clear H
 go_enter Try.func24,Try.ntmps24
 go_wp2
 go_loopg [8] k (fun kq v8 w'=>∃ (x8_1:Int),v8 = .int .i64 x8_1∧Aside0 (r18_numbers.l0 kq a0 l1 (l1.length:Int) x8_1=some r)∧Aside0 (kq≤k)∧Drawn0 w w')
 case atStart=>exact ⟨(0),(by first|rfl|(simp;done)|(simp [*];done)),H',⟨Nat.le_refl _⟩,by repeat (first|exact Drawn0.refl _|apply Drawn0.step)⟩
 case round =>
  clear H';obtain ⟨x8_1,rfl,HA,HK1,⟨m1,rfl⟩⟩:=hrel
  cases gk with
  | zero=>exact absurd HA.out (by simp [r18_numbers.l0])
  | succ k1 =>
   have H:=HA.out;clear HA;simp only [r18_numbers.l0] at H;by_cases c3:x8_1<(l1.length:Int)
   ·rw [if_pos c3] at H
    have c3b0:=decide_eq_true c3;clear c3;by_cases c4:0≤x8_1
    ·rw [if_pos c4] at H
     have c4b0:=decide_eq_true c4;clear c4;by_cases c5:x8_1<(l1.length:Int)
     ·rw [if_pos c5] at H
      have c5b0:=decide_eq_true c5;clear c5;by_cases c6:(rd l1 x8_1)<(-1048576)
      ·rw [if_pos c6] at H
       have c6b0:=decide_eq_true c6;clear c6;obtain rfl:=Option.some.inj H
       have p119:0≤(x8_1:Int):=of_decide_eq_true (by first|(with_reducible assumption)|assumption)
       have q119:x8_1<(l1.length:Int):=of_decide_eq_true (by first|(with_reducible assumption)|assumption)
       obtain ⟨ad119,e119,hx119_0⟩:=Kd.at_int HR1.out x8_1 p119 q119;cases e119;replace p119:=eq_true p119;replace q119:=eq_true q119
       go_wp2
       go_ret
       exact ⟨by first|rfl|(simp;done)|(simp [*];done),by repeat (first|exact Drawn0.refl _|apply Drawn0.step)⟩
      rw [if_neg c6] at H;have c6b0:=decide_eq_false c6;clear c6;by_cases c7:(rd l1 x8_1)>1048576
      ·rw [if_pos c7] at H
       have c7b0:=decide_eq_true c7;clear c7;obtain rfl:=Option.some.inj H
       have p119:0≤(x8_1:Int):=of_decide_eq_true (by first|(with_reducible assumption)|assumption)
       have q119:x8_1<(l1.length:Int):=of_decide_eq_true (by first|(with_reducible assumption)|assumption)
       obtain ⟨ad119,e119,hx119_0⟩:=Kd.at_int HR1.out x8_1 p119 q119;cases e119;replace p119:=eq_true p119;replace q119:=eq_true q119
       have p120:0≤(x8_1:Int):=of_decide_eq_true (by first|(with_reducible assumption)|assumption)
       have q120:x8_1<(l1.length:Int):=of_decide_eq_true (by first|(with_reducible assumption)|assumption)
       obtain ⟨ad120,e120,hx120_0⟩:=Kd.at_int HR1.out x8_1 p120 q120
       obtain rfl:ad119=ad120:=(by injection e120)
       replace p120:=eq_true p120;replace q120:=eq_true q120
       go_wp2
       go_ret
       exact ⟨by first|rfl|(simp;done)|(simp [*];done),by repeat (first|exact Drawn0.refl _|apply Drawn0.step)⟩
      rw [if_neg c7] at H;have c7b0:=decide_eq_false c7;clear c7;have H':=Aside0.mk H;clear H
      have p119:0≤(x8_1:Int):=of_decide_eq_true (by first|(with_reducible assumption)|assumption)
      have q119:x8_1<(l1.length:Int):=of_decide_eq_true (by first|(with_reducible assumption)|assumption)
      obtain ⟨ad119,e119,hx119_0⟩:=Kd.at_int HR1.out x8_1 p119 q119;cases e119;replace p119:=eq_true p119;replace q119:=eq_true q119
      have p120:0≤(x8_1:Int):=of_decide_eq_true (by first|(with_reducible assumption)|assumption)
      have q120:x8_1<(l1.length:Int):=of_decide_eq_true (by first|(with_reducible assumption)|assumption)
      obtain ⟨ad120,e120,hx120_0⟩:=Kd.at_int HR1.out x8_1 p120 q120
      obtain rfl:ad119=ad120:=(by injection e120)
      replace p120:=eq_true p120;replace q120:=eq_true q120
      go_wp2
      go_roundg k1
      case measure=>have:=HK1.out;omega
      case rel=>exact ⟨(wrap64 (x8_1+1)),(by first|rfl|(simp;done)|(simp [*];done)),H',⟨by have:=HK1.out;omega⟩,by repeat (first|exact Drawn0.refl _|apply Drawn0.step)⟩
     rw [if_neg c5] at H
     exact absurd H (by simp)
    rw [if_neg c4] at H
    exact absurd H (by simp)
   rw [if_neg c3] at H;have c3b0:=decide_eq_false c3;clear c3;by_cases c8:a0=2
   ·rw [if_pos c8] at H
    have c8b0:=beq_iff_eq.mpr c8;have c8b1:=bne_eq_false_iff_eq.mpr c8;clear c8;by_cases c9:2<(l1.length:Int)
    ·rw [if_pos c9] at H
     have c9b0:=decide_eq_true c9
     have c9b1:decide (2<l1.length)=true:=decide_eq_true (by omega)
     clear c9;by_cases c10:(rd l1 2)<0
     ·rw [if_pos c10] at H
      have c10b0:=decide_eq_true c10;clear c10;obtain rfl:=Option.some.inj H
      have p121:0≤(2:Int):=(by omega)
      have q121:2<(l1.length:Int):=of_decide_eq_true (by first|(with_reducible assumption)|assumption)
      obtain ⟨ad121,e121,hx121_0⟩:=Kd.at_int HR1.out 2 p121 q121;cases e121
      (try simp only [show (2:Int).toNat=2 from rfl,Nat.reduceMul,Nat.reduceEqDiff,Go.Addr.add,↓reduceIte] at hx121_0)
      have qi121:(2<l1.length)=True:=eq_true (by omega)
      (try rw [show ((2:Int)).toNat=2 from rfl] at hx121_0)
      replace p121:=eq_true p121;replace q121:=eq_true q121
      go_wp2
      go_ret
      exact ⟨by first|rfl|(simp;done)|(simp [*];done),by repeat (first|exact Drawn0.refl _|apply Drawn0.step)⟩
     rw [if_neg c10] at H;have c10b0:=decide_eq_false c10;clear c10;obtain rfl:=Option.some.inj H
     have p121:0≤(2:Int):=(by omega)
     have q121:2<(l1.length:Int):=of_decide_eq_true (by first|(with_reducible assumption)|assumption)
     obtain ⟨ad121,e121,hx121_0⟩:=Kd.at_int HR1.out 2 p121 q121;cases e121
     (try simp only [show (2:Int).toNat=2 from rfl,Nat.reduceMul,Nat.reduceEqDiff,Go.Addr.add,↓reduceIte] at hx121_0)
     have qi121:(2<l1.length)=True:=eq_true (by omega)
     (try rw [show ((2:Int)).toNat=2 from rfl] at hx121_0)
     replace p121:=eq_true p121;replace q121:=eq_true q121
     go_wp2
     go_ret
     exact ⟨by first|rfl|(simp;done)|(simp [*];done),by repeat (first|exact Drawn0.refl _|apply Drawn0.step)⟩
    rw [if_neg c9] at H
    exact absurd H (by simp)
   rw [if_neg c8] at H;have c8b0:(a0==2)=false:=beq_eq_false_iff_ne.mpr c8;have c8b1:(a0 != 2)=true:=bne_iff_ne.mpr c8;by_cases c11:a0=4
   ·rw [if_pos c11] at H
    have c11b0:=beq_iff_eq.mpr c11;have c11b1:=bne_eq_false_iff_eq.mpr c11;clear c11;by_cases c12:2<(l1.length:Int)
    ·rw [if_pos c12] at H
     have c12b0:=decide_eq_true c12
     have c12b1:decide (2<l1.length)=true:=decide_eq_true (by omega)
     clear c12;by_cases c13:(rd l1 2)<0
     ·rw [if_pos c13] at H
      have c13b0:=decide_eq_true c13;clear c13;obtain rfl:=Option.some.inj H
      have p122:0≤(2:Int):=(by omega)
      have q122:2<(l1.length:Int):=of_decide_eq_true (by first|(with_reducible assumption)|assumption)
      obtain ⟨ad122,e122,hx122_0⟩:=Kd.at_int HR1.out 2 p122 q122;cases e122
      (try simp only [show (2:Int).toNat=2 from rfl,Nat.reduceMul,Nat.reduceEqDiff,Go.Addr.add,↓reduceIte] at hx122_0)
      have qi122:(2<l1.length)=True:=eq_true (by omega)
      (try rw [show ((2:Int)).toNat=2 from rfl] at hx122_0)
      replace p122:=eq_true p122;replace q122:=eq_true q122
      go_wp2
      go_ret
      exact ⟨by first|rfl|(simp;done)|(simp [*];done),by repeat (first|exact Drawn0.refl _|apply Drawn0.step)⟩
     rw [if_neg c13] at H;have c13b0:=decide_eq_false c13;clear c13;obtain rfl:=Option.some.inj H
     have p122:0≤(2:Int):=(by omega)
     have q122:2<(l1.length:Int):=of_decide_eq_true (by first|(with_reducible assumption)|assumption)
     obtain ⟨ad122,e122,hx122_0⟩:=Kd.at_int HR1.out 2 p122 q122;cases e122
     (try simp only [show (2:Int).toNat=2 from rfl,Nat.reduceMul,Nat.reduceEqDiff,Go.Addr.add,↓reduceIte] at hx122_0)
     have qi122:(2<l1.length)=True:=eq_true (by omega)
     (try rw [show ((2:Int)).toNat=2 from rfl] at hx122_0)
     replace p122:=eq_true p122;replace q122:=eq_true q122
     go_wp2
     go_ret
     exact ⟨by first|rfl|(simp;done)|(simp [*];done),by repeat (first|exact Drawn0.refl _|apply Drawn0.step)⟩
    rw [if_neg c12] at H
    exact absurd H (by simp)
   rw [if_neg c11] at H;have c11b0:(a0==4)=false:=beq_eq_false_iff_ne.mpr c11;have c11b1:(a0 != 4)=true:=bne_iff_ne.mpr c11;obtain rfl:=Option.some.inj H
   go_wp2
   go_ret
   exact ⟨by first|rfl|(simp;done)|(simp [*];done),by repeat (first|exact Drawn0.refl _|apply Drawn0.step)⟩

/-! ### r18_Check: function 11 -/
def r18_Check.f (k:Nat) (a0:Int) (l1:List Int) (a2:Int) (l3:List (S47)):Option (Int):=(r18_head.f k a0 l1 a2).bind fun t123=>(if t123=0 then (if (l3.length:Int)=0 then (some 1) else (if (l3.length:Int)>16 then (some 3) else ((r18_numbers.f k a0 l1).bind fun t124=>(if t124=0 then ((r18_Stops.f k l3).bind fun t125=>(some t125)) else (some t124))))) else (some t123))
theorem r18_Check.mono:∀ a0 a1 a2 a3 k,LeO (r18_Check.f k a0 a1 a2 a3) (r18_Check.f (k+1) a0 a1 a2 a3):=by
 intro a0 a1 a2 a3 k
 unfold r18_Check.f
 repeat' first
   | (with_reducible exact r18_Stops.mono _ _)
   | (with_reducible exact r18_head.mono _ _ _ _)
   | (with_reducible exact r18_numbers.mono _ _ _)
   | (with_reducible exact LeO.refl _)
   | (with_reducible exact LeO.none _)
   | (with_reducible refine LeO.ite ?_ ?_)
   | (with_reducible refine LeO.bind ?_ (fun _=>?_))
set_option maxHeartbeats 8000000 in
set_option maxRecDepth 100000 in
theorem r18_Check.calls (k:Nat) (a0:Int) (A1:Option Addr) (c1:Nat) (l1:List Int) (a2:Int) (A3:Option Addr) (c3:Nat) (l3:List (S47)) (r:Int) (w:World) (hr1:Kd.C (Kd.int .i64) w A1 l1.length l1) (hc1:l1.length≤c1) (hr3:Kd.C k47 w A3 l3.length l3) (hc3:l3.length≤c3) (h:r18_Check.f k a0 l1 a2 l3=some r) :
  Calls Try.prog 11 #[.int .i64 a0,.slice A1 l1.length c1,.int .i64 a2,.slice A3 l3.length c3] w fun e w'=>e = .returned (.int .i64 r)∧Below w.heap.size w w':=by
 have HR1:=Aside0.mk hr1;have HC1:=Aside0.mk hc1;clear hr1 hc1;have HR3:=Aside0.mk hr3;have HC3:=Aside0.mk hc3;clear hr3 hc3;have HB:=Aside0.mk (Below.refl w.heap.size w)
 have H:((r18_head.f k a0 l1 a2).bind fun t123=>(if t123=0 then (if (l3.length:Int)=0 then (some 1) else (if (l3.length:Int)>16 then (some 3) else ((r18_numbers.f k a0 l1).bind fun t124=>(if t124=0 then ((r18_Stops.f k l3).bind fun t125=>(some t125)) else (some t124))))) else (some t123)))=some r:=h
 clear h;replace H:=Option.bind_eq_some_iff.mp H;obtain ⟨t123,A50,H⟩:=H
 replace H:(if t123=0 then (if (l3.length:Int)=0 then (some 1) else (if (l3.length:Int)>16 then (some 3) else ((r18_numbers.f k a0 l1).bind fun t124=>(if t124=0 then ((r18_Stops.f k l3).bind fun t125=>(some t125)) else (some t124))))) else (some t123))=some r:=H
 have A5:=Aside0.mk A50;clear A50;by_cases c6:t123=0
 ·rw [if_pos c6] at H
  have c6b0:=beq_iff_eq.mpr c6;have c6b1:=bne_eq_false_iff_eq.mpr c6;clear c6;by_cases c7:(l3.length:Int)=0
  ·rw [if_pos c7] at H
   have c7b0:=beq_iff_eq.mpr c7;have c7b1:=bne_eq_false_iff_eq.mpr c7;clear c7;obtain rfl:=Option.some.inj H
   go_enter Try.func11,Try.ntmps11
   go_wp2_with (first|((with_reducible refine gate_callee (f:=23) rfl ?_);refine goesL_ (some 13) rfl rfl Try.func23 (by kernel_rfl) rfl #[.int .i64 a0,.slice A1 l1.length c1,.int .i64 a2] rfl (by (try simp only [mA_,mC_,mN_]);first|done|rfl|(simp only [dL_,kL_];rfl)) ?_;(with_reducible refine (r18_head.calls k a0 _ _ l1 a2 t123 _ ?side1 ?side2 A5.out).mono ?_);(case side1=>repeat (first|exact HR1.out|(with_reducible refine Kd.C_alloc ?_ _)|(with_reducible refine Kd.C_drewN ?_ _)|(with_reducible refine Kd.C_drew ?_)));(case side2=>exact HC1.out);rintro e w' ⟨rfl,⟨nd,rfl⟩⟩;refine ⟨_,rfl,?_⟩))
   go_ret
   exact ⟨by first|rfl|(simp [errW_none,errW_some] <;> rfl)|(simp [*,errW_none,errW_some] <;> rfl),by repeat first|(with_reducible first|exact HB.out|apply lA_|apply lN_|apply lD_)|exact HB.out⟩
  rw [if_neg c7] at H;have c7b0:((l3.length:Int)==0)=false:=beq_eq_false_iff_ne.mpr c7;have c7b1:((l3.length:Int) != 0)=true:=bne_iff_ne.mpr c7
  have c7b2:¬ (l3=[]):=fun h_=>c7 (by rw [h_];rfl)
  by_cases c8:(l3.length:Int)>16
  ·rw [if_pos c8] at H
   have c8b0:=decide_eq_true c8
   have c8b1:decide (16<l3.length)=true:=decide_eq_true (by omega)
   clear c8;obtain rfl:=Option.some.inj H
   go_enter Try.func11,Try.ntmps11
   go_wp2_with (first|((with_reducible refine gate_callee (f:=23) rfl ?_);refine goesL_ (some 13) rfl rfl Try.func23 (by kernel_rfl) rfl #[.int .i64 a0,.slice A1 l1.length c1,.int .i64 a2] rfl (by (try simp only [mA_,mC_,mN_]);first|done|rfl|(simp only [dL_,kL_];rfl)) ?_;(with_reducible refine (r18_head.calls k a0 _ _ l1 a2 t123 _ ?side1 ?side2 A5.out).mono ?_);(case side1=>repeat (first|exact HR1.out|(with_reducible refine Kd.C_alloc ?_ _)|(with_reducible refine Kd.C_drewN ?_ _)|(with_reducible refine Kd.C_drew ?_)));(case side2=>exact HC1.out);rintro e w' ⟨rfl,⟨nd,rfl⟩⟩;refine ⟨_,rfl,?_⟩))
   go_ret
   exact ⟨by first|rfl|(simp [errW_none,errW_some] <;> rfl)|(simp [*,errW_none,errW_some] <;> rfl),by repeat first|(with_reducible first|exact HB.out|apply lA_|apply lN_|apply lD_)|exact HB.out⟩
  rw [if_neg c8] at H;have c8b0:=decide_eq_false c8
  have c8b1:decide (16<l3.length)=false:=decide_eq_false (by omega)
  clear c8;replace H:=Option.bind_eq_some_iff.mp H;obtain ⟨t124,A90,H⟩:=H
  replace H:(if t124=0 then ((r18_Stops.f k l3).bind fun t125=>(some t125)) else (some t124))=some r:=H
  have A9:=Aside0.mk A90;clear A90;by_cases c10:t124=0
  ·rw [if_pos c10] at H
   have c10b0:=beq_iff_eq.mpr c10;have c10b1:=bne_eq_false_iff_eq.mpr c10;clear c10;replace H:=Option.bind_eq_some_iff.mp H;obtain ⟨t125,A110,H⟩:=H;replace H:(some t125)=some r:=H;have A11:=Aside0.mk A110;clear A110;obtain rfl:=Option.some.inj H
   go_enter Try.func11,Try.ntmps11
   go_wp2_with (first|((with_reducible refine gate_callee (f:=23) rfl ?_);refine goesL_ (some 13) rfl rfl Try.func23 (by kernel_rfl) rfl #[.int .i64 a0,.slice A1 l1.length c1,.int .i64 a2] rfl (by (try simp only [mA_,mC_,mN_]);first|done|rfl|(simp only [dL_,kL_];rfl)) ?_;(with_reducible refine (r18_head.calls k a0 _ _ l1 a2 t123 _ ?side1 ?side2 A5.out).mono ?_);(case side1=>repeat (first|exact HR1.out|(with_reducible refine Kd.C_alloc ?_ _)|(with_reducible refine Kd.C_drewN ?_ _)|(with_reducible refine Kd.C_drew ?_)));(case side2=>exact HC1.out);rintro e w' ⟨rfl,⟨nd,rfl⟩⟩;refine ⟨_,rfl,?_⟩)|((with_reducible refine gate_callee (f:=24) rfl ?_);refine goesL_ (some 25) rfl rfl Try.func24 (by kernel_rfl) rfl #[.int .i64 a0,.slice A1 l1.length c1] rfl (by (try simp only [mA_,mC_,mN_]);first|done|rfl|(simp only [dL_,kL_];rfl)) ?_;(with_reducible refine (r18_numbers.calls k a0 _ _ l1 t124 _ ?side1 ?side2 A9.out).mono ?_);(case side1=>repeat (first|exact HR1.out|(with_reducible refine Kd.C_alloc ?_ _)|(with_reducible refine Kd.C_drewN ?_ _)|(with_reducible refine Kd.C_drew ?_)));(case side2=>exact HC1.out);rintro e w' ⟨rfl,⟨nd,rfl⟩⟩;refine ⟨_,rfl,?_⟩)|((with_reducible refine gate_callee (f:=22) rfl ?_);refine goesL_ (some 30) rfl rfl Try.func22 (by kernel_rfl) rfl #[.slice A3 l3.length c3] rfl (by (try simp only [mA_,mC_,mN_]);first|done|rfl|(simp only [dL_,kL_];rfl)) ?_;(with_reducible refine (r18_Stops.calls k _ _ l3 t125 _ ?side1 ?side2 A11.out).mono ?_);(case side1=>repeat (first|exact HR3.out|(with_reducible refine Kd.C_alloc ?_ _)|(with_reducible refine Kd.C_drewN ?_ _)|(with_reducible refine Kd.C_drew ?_)));(case side2=>exact HC3.out);rintro e w12 ⟨rfl,hb⟩;refine ⟨_,rfl,?_⟩;have n0_:=Aside0.mk (below_step (by repeat first|(with_reducible first|exact HB.out|apply lA_|apply lN_|apply lD_)|exact HB.out) hb);clear HB;have HB:=n0_;clear n0_;(try clear hb);(try clear hb2);(try clear hk);(try clear hi)))
   go_ret
   exact ⟨by first|rfl|(simp [errW_none,errW_some] <;> rfl)|(simp [*,errW_none,errW_some] <;> rfl),by repeat first|(with_reducible first|exact HB.out|apply lA_|apply lN_|apply lD_)|exact HB.out⟩
  rw [if_neg c10] at H;have c10b0:(t124==0)=false:=beq_eq_false_iff_ne.mpr c10;have c10b1:(t124 != 0)=true:=bne_iff_ne.mpr c10;obtain rfl:=Option.some.inj H
  go_enter Try.func11,Try.ntmps11
  go_wp2_with (first|((with_reducible refine gate_callee (f:=23) rfl ?_);refine goesL_ (some 13) rfl rfl Try.func23 (by kernel_rfl) rfl #[.int .i64 a0,.slice A1 l1.length c1,.int .i64 a2] rfl (by (try simp only [mA_,mC_,mN_]);first|done|rfl|(simp only [dL_,kL_];rfl)) ?_;(with_reducible refine (r18_head.calls k a0 _ _ l1 a2 t123 _ ?side1 ?side2 A5.out).mono ?_);(case side1=>repeat (first|exact HR1.out|(with_reducible refine Kd.C_alloc ?_ _)|(with_reducible refine Kd.C_drewN ?_ _)|(with_reducible refine Kd.C_drew ?_)));(case side2=>exact HC1.out);rintro e w' ⟨rfl,⟨nd,rfl⟩⟩;refine ⟨_,rfl,?_⟩)|((with_reducible refine gate_callee (f:=24) rfl ?_);refine goesL_ (some 25) rfl rfl Try.func24 (by kernel_rfl) rfl #[.int .i64 a0,.slice A1 l1.length c1] rfl (by (try simp only [mA_,mC_,mN_]);first|done|rfl|(simp only [dL_,kL_];rfl)) ?_;(with_reducible refine (r18_numbers.calls k a0 _ _ l1 t124 _ ?side1 ?side2 A9.out).mono ?_);(case side1=>repeat (first|exact HR1.out|(with_reducible refine Kd.C_alloc ?_ _)|(with_reducible refine Kd.C_drewN ?_ _)|(with_reducible refine Kd.C_drew ?_)));(case side2=>exact HC1.out);rintro e w' ⟨rfl,⟨nd,rfl⟩⟩;refine ⟨_,rfl,?_⟩))
  go_ret
  exact ⟨by first|rfl|(simp [errW_none,errW_some] <;> rfl)|(simp [*,errW_none,errW_some] <;> rfl),by repeat first|(with_reducible first|exact HB.out|apply lA_|apply lN_|apply lD_)|exact HB.out⟩
 rw [if_neg c6] at H;have c6b0:(t123==0)=false:=beq_eq_false_iff_ne.mpr c6;have c6b1:(t123 != 0)=true:=bne_iff_ne.mpr c6;obtain rfl:=Option.some.inj H
 go_enter Try.func11,Try.ntmps11
 go_wp2_with (first|((with_reducible refine gate_callee (f:=23) rfl ?_);refine goesL_ (some 13) rfl rfl Try.func23 (by kernel_rfl) rfl #[.int .i64 a0,.slice A1 l1.length c1,.int .i64 a2] rfl (by (try simp only [mA_,mC_,mN_]);first|done|rfl|(simp only [dL_,kL_];rfl)) ?_;(with_reducible refine (r18_head.calls k a0 _ _ l1 a2 t123 _ ?side1 ?side2 A5.out).mono ?_);(case side1=>repeat (first|exact HR1.out|(with_reducible refine Kd.C_alloc ?_ _)|(with_reducible refine Kd.C_drewN ?_ _)|(with_reducible refine Kd.C_drew ?_)));(case side2=>exact HC1.out);rintro e w' ⟨rfl,⟨nd,rfl⟩⟩;refine ⟨_,rfl,?_⟩))
 go_ret
 exact ⟨by first|rfl|(simp [errW_none,errW_some] <;> rfl)|(simp [*,errW_none,errW_some] <;> rfl),by repeat first|(with_reducible first|exact HB.out|apply lA_|apply lN_|apply lD_)|exact HB.out⟩

/-! ### w18_grays: function 12 -/
def w18_grays.f :Option ((List (S47))):=some (([(⟨0,(⟨0,0,0,65535⟩:S38)⟩:S47),(⟨65535,(⟨65535,65535,65535,65535⟩:S38)⟩:S47)]:List (S47)))
set_option maxHeartbeats 8000000 in
set_option maxRecDepth 100000 in
theorem w18_grays.calls  (r:List (S47)) (w:World) (h:w18_grays.f  = some r) :
  Calls Try.prog 12 #[] w fun e w'=>∃ v0_:Value,e = .returned (v0_)∧Kd.R k47 47 w' w.heap.size (fun _=>True) v0_ r∧Below w.heap.size w w':=by
 have hu38:=Try.underlying38;have hu47:=Try.underlying47;have HB:=Aside0.mk (Below.refl w.heap.size w);have H:(some (([(⟨0,(⟨0,0,0,65535⟩:S38)⟩:S47),(⟨65535,(⟨65535,65535,65535,65535⟩:S38)⟩:S47)]:List (S47))))=some r:=h;clear h;obtain ⟨y126,hy126⟩:∃ y_:List (S47),y_=(([(⟨0,(⟨0,0,0,65535⟩:S38)⟩:S47),(⟨65535,(⟨65535,65535,65535,65535⟩:S38)⟩:S47)]:List (S47))):=⟨_,rfl⟩
 replace H:(some y126)=some r:=by first|(rw [hy126];with_reducible exact H)|(have H2_:=(Option.bind_some _ _).symm.trans H;rw [hy126];with_reducible exact H2_)|(have H2_:=(Option.bind_some _ _).symm.trans H;with_reducible exact H2_)|with_reducible exact H|(rw [hy126];exact H)|exact H
 have Ny126:=Aside0.mk hy126;clear hy126;obtain rfl:=Option.some.inj H
 go_enter Try.func12,Try.ntmps12
 go_wp2_with (first|((with_reducible refine gate_dst (N:=5) rfl ?_);refine Kd.R_lit k47 _ 47 ?hg (N:=5) ?hd (xs:=([(⟨0,(⟨0,0,0,65535⟩:S38)⟩:S47),(⟨65535,(⟨65535,65535,65535,65535⟩:S38)⟩:S47)]:List (S47))) (inner:=[.int .i64 0,.int .i64 0,.int .i64 0,.int .i64 0,.int .i64 65535,.int .i64 65535,.int .i64 65535,.int .i64 65535,.int .i64 65535,.int .i64 65535]) (ok:=fun _=>True) (okp:=fun _=>True) ?hr ?hp (fun _ hk=>hk) trivial (Below.refl _ _) (Nat.le_refl _) (by simp) ?_;(case hd=>rfl);(case hg=>rfl);(case hr=>first|(go_simp;done)|(go_simp;rfl));(case hp=>exact (Reps.c5 (show Kd.M k47 _ _ _ (⟨0,(⟨0,0,0,65535⟩:S38)⟩:S47) [.int .i64 0,.int .i64 0,.int .i64 0,.int .i64 0,.int .i64 65535] from (k47_mkM _ _ _ (⟨0,(⟨0,0,0,65535⟩:S38)⟩:S47) )) (Reps.c5 (show Kd.M k47 _ _ _ (⟨65535,(⟨65535,65535,65535,65535⟩:S38)⟩:S47) [.int .i64 65535,.int .i64 65535,.int .i64 65535,.int .i64 65535,.int .i64 65535] from (k47_mkM _ _ _ (⟨65535,(⟨65535,65535,65535,65535⟩:S38)⟩:S47) )) (Reps.none _ _))));intro v127 w1 ho2 hb hg_ hnew_;clear hg_ hnew_;(first|rw [← Ny126.out] at ho2|(simp only [Int.reduceToNat] at ho2;rw [← Ny126.out] at ho2));have n0_:=Aside0.mk (Kd.R_lower ho2 (below_size (by repeat first|(with_reducible first|exact HB.out|apply lA_|apply lN_|apply lD_)|exact HB.out)));have n1_:=Aside0.mk (below_step (by repeat first|(with_reducible first|exact HB.out|apply lA_|apply lN_|apply lD_)|exact HB.out) hb);clear HB;have HO128:=n0_;have HB:=n1_;clear n0_ n1_;clear hb ho2))
 go_ret
 exact ⟨_,by first|rfl|(simp [errW_none,errW_some] <;> rfl)|(simp [*,errW_none,errW_some] <;> rfl),by (with_reducible repeat (first|apply Kd.R_alloc|apply Kd.R_drewN|apply Kd.R_drew));exact HO128.out,by repeat first|(with_reducible first|exact HB.out|apply lA_|apply lN_|apply lD_)|exact HB.out⟩

end Go.Proofs.Ytmlcobnidfkhfaa.Q
