/- Each Go function of the law as a Lean function, with the proof that its call comes to just that, for every input; written by hp.py, a program of this session over the kit own print of the translation. -/
import Derived.Test.YtmlcobnidfkhfaaQ0
namespace Go.Proofs.Ytmlcobnidfkhfaa.Q
open Go.RowKit Go.Proofs.YtmlcobnidfkhfaaW.PrintWords Go.Proofs.YtmlcobnidfkhfaaW.PrintLast Go.Proofs.YtmlcobnidfkhfaaW.PrintMore
attribute [local go_sem] max2_int min2_int max_two min_two max_three min_three max_four min_four   -- for this text's walks alone
set_option linter.unusedVariables false
set_option linter.unusedSimpArgs false
open Go.Proofs.Ytmlcobnidfkhfaa.Clo Go.Proofs.Ytmlcobnidfkhfaa.Mk0

/-! ### gr_params: function 25 -/
mutual
def gr_params.j0:Nat→Int→List Int→Int→Int→Int→Int→Int→Option (Int × Int × Int)
 | 0,_,_,_,_,_,_,_=>none
 | k+1,x0,x1,x2,x6,x7,x8,x9=>if x2<0 then (gr_params.j1 k x0 x1 x6 x7 x8 x9 true) else (gr_params.j1 k x0 x1 x6 x7 x8 x9 (decide (x2>2)))
def gr_params.j1:Nat→Int→List Int→Int→Int→Int→Int→Bool→Option (Int × Int × Int)
 | 0,_,_,_,_,_,_,_=>none
 | k+1,x0,x1,x6,x7,x8,x9,x24=>if x24=true then (gr_params.j2 k x0 x1 8 x7 x8 x9) else (gr_params.j2 k x0 x1 x6 x7 x8 x9)
def gr_params.j2:Nat→Int→List Int→Int→Int→Int→Int→Option (Int × Int × Int)
 | 0,_,_,_,_,_,_=>none
 | k+1,x0,x1,x6,x7,x8,x9=>if (x1.length:Int)=x9 then (gr_params.l0 k x0 x1 x6 x7 x8 x1 (x1.length:Int) 0) else (some (x6,1,x8))
def gr_params.l0:Nat→Int→List Int→Int→Int→Int→List Int→Int→Int→Option (Int × Int × Int)
 | 0,_,_,_,_,_,_,_,_=>none
 | k+1,x0,x1,x6,x7,x8,x29,x30,x31=>if x31<x30 then (if 0≤x31 then (if x31<(x29.length:Int) then (if (rd x29 x31)<(-1048576) then (gr_params.l0 k x0 x1 x6 x7 2 x29 x30 (wrap64 (x31+1))) else (if (rd x29 x31)>1048576 then (gr_params.l0 k x0 x1 x6 x7 2 x29 x30 (wrap64 (x31+1))) else (gr_params.l0 k x0 x1 x6 x7 x8 x29 x30 (wrap64 (x31+1))))) else (none)) else (none)) else (if x0=2 then (if 2<(x1.length:Int) then (if (rd x1 2)<0 then (some (x6,x7,2)) else (some (x6,x7,x8))) else (none)) else (if x0=4 then (if 2<(x1.length:Int) then (if (rd x1 2)<0 then (some (x6,x7,2)) else (some (x6,x7,x8))) else (none)) else (some (x6,x7,x8))))
end
def gr_params.f (k:Nat) (a0:Int) (l1:List Int) (a2:Int):Option (Int × Int × Int):=if a0=1 then (gr_params.j0 k a0 l1 a2 0 0 0 4) else (if a0=2 then (gr_params.j0 k a0 l1 a2 0 0 0 3) else (if a0=3 then (gr_params.j0 k a0 l1 a2 0 0 0 3) else (if a0=4 then (gr_params.j0 k a0 l1 a2 0 0 0 3) else (gr_params.j0 k a0 l1 a2 8 0 0 3))))
theorem gr_params.mono_l:∀ k,(∀ y0 y1 y2 y3 y4 y5 y6,LeO (gr_params.j0 k y0 y1 y2 y3 y4 y5 y6) (gr_params.j0 (k+1) y0 y1 y2 y3 y4 y5 y6))∧(∀ y0 y1 y2 y3 y4 y5 y6,LeO (gr_params.j1 k y0 y1 y2 y3 y4 y5 y6) (gr_params.j1 (k+1) y0 y1 y2 y3 y4 y5 y6))∧(∀ y0 y1 y2 y3 y4 y5,LeO (gr_params.j2 k y0 y1 y2 y3 y4 y5) (gr_params.j2 (k+1) y0 y1 y2 y3 y4 y5))∧(∀ y0 y1 y2 y3 y4 y5 y6 y7,LeO (gr_params.l0 k y0 y1 y2 y3 y4 y5 y6 y7) (gr_params.l0 (k+1) y0 y1 y2 y3 y4 y5 y6 y7))
 | 0=>⟨fun _ _ _ _ _ _ _ r h=>by simp [gr_params.j0] at h,fun _ _ _ _ _ _ _ r h=>by simp [gr_params.j1] at h,fun _ _ _ _ _ _ r h=>by simp [gr_params.j2] at h,fun _ _ _ _ _ _ _ _ r h=>by simp [gr_params.l0] at h⟩
 | k+1=>by
  obtain ⟨ih0,ih1,ih2,ih3⟩:=gr_params.mono_l k;refine ⟨?_,?_,?_,?_⟩;intro y0 y1 y2 y3 y4 y5 y6;unfold gr_params.j0;rotate_left;intro y0 y1 y2 y3 y4 y5 y6;unfold gr_params.j1;rotate_left;intro y0 y1 y2 y3 y4 y5;unfold gr_params.j2;rotate_left;intro y0 y1 y2 y3 y4 y5 y6 y7;unfold gr_params.l0;rotate_left
  all_goals repeat' first
   | (with_reducible exact ih0 _ _ _ _ _ _ _)
   | (with_reducible exact ih1 _ _ _ _ _ _ _)
   | (with_reducible exact ih2 _ _ _ _ _ _)
   | (with_reducible exact ih3 _ _ _ _ _ _ _ _)
   | (with_reducible exact LeO.refl _)
   | (with_reducible exact LeO.none _)
   | (with_reducible refine LeO.ite ?_ ?_)
   | (with_reducible refine LeO.bind ?_ (fun _=>?_))
theorem gr_params.mono:∀ a0 a1 a2 k,LeO (gr_params.f k a0 a1 a2) (gr_params.f (k+1) a0 a1 a2):=by
 intro a0 a1 a2 k;obtain ⟨ih0,ih1,ih2,ih3⟩:=gr_params.mono_l k
 unfold gr_params.f
 repeat' first
   | (with_reducible exact ih0 _ _ _ _ _ _ _)
   | (with_reducible exact ih1 _ _ _ _ _ _ _)
   | (with_reducible exact ih2 _ _ _ _ _ _)
   | (with_reducible exact ih3 _ _ _ _ _ _ _ _)
   | (with_reducible exact LeO.refl _)
   | (with_reducible exact LeO.none _)
   | (with_reducible refine LeO.ite ?_ ?_)
   | (with_reducible refine LeO.bind ?_ (fun _=>?_))
set_option maxHeartbeats 8000000 in
set_option maxRecDepth 100000 in
theorem gr_params.calls (k:Nat) (a0:Int) (A1:Option Addr) (c1:Nat) (l1:List Int) (a2:Int) (r1:Int) (r2:Int) (r3:Int) (w:World) (hr1:Kd.C (Kd.int .i64) w A1 l1.length l1) (hc1:l1.length≤c1) (h:gr_params.f k a0 l1 a2=some (r1,r2,r3)) :
  Calls Try.prog 25 #[.int .i64 a0,.slice A1 l1.length c1,.int .i64 a2] w fun e w'=>e = .returned (.tuple #[.int .i64 r1,.int .i64 r2,.int .i64 r3])∧Drawn0 w w':=by
 have HR1:=Aside0.mk hr1;have HC1:=Aside0.mk hc1;clear hr1 hc1
 have H:(if a0=1 then (gr_params.j0 k a0 l1 a2 0 0 0 4) else (if a0=2 then (gr_params.j0 k a0 l1 a2 0 0 0 3) else (if a0=3 then (gr_params.j0 k a0 l1 a2 0 0 0 3) else (if a0=4 then (gr_params.j0 k a0 l1 a2 0 0 0 3) else (gr_params.j0 k a0 l1 a2 8 0 0 3)))))=some (r1,r2,r3):=h
 clear h;have HC4:=Aside0.mk H;clear H
 go_enter Try.func25,Try.ntmps25
 go_upto_block 0 with (fail)
 go_cut [6,9] (fun v6 v9 wc=>∃ (kq:Nat) (x6_3:Int) (x9_3:Int),v6 = .int .i64 x6_3∧v9 = .int .i64 x9_3∧Aside0 (gr_params.j0 kq a0 l1 a2 x6_3 0 0 x9_3=some (r1,r2,r3))∧Aside0 (kq≤k)∧Drawn0 w wc)
 case first =>
  have H:=HC4.out;clear HC4;by_cases c5:a0=1
  ·rw [if_pos c5] at H
   have c5b0:=beq_iff_eq.mpr c5;have c5b1:=bne_eq_false_iff_eq.mpr c5;clear c5
   (first|rw [c5b0]|(simp only [i64_w,i32_w];rw [c5b0])|skip)
   have H':=Aside0.mk H;clear H
   go_wp2
   go_meet
   case rel=>exact ⟨_,(0),(4),(by first|rfl|(simp;done)|(simp [*];done)),(by first|rfl|(simp;done)|(simp [*];done)),H',⟨by first|omega|exact Nat.le_refl _⟩,by repeat (first|exact Drawn0.refl _|apply Drawn0.step)⟩
  rw [if_neg c5] at H;have c5b0:(a0==1)=false:=beq_eq_false_iff_ne.mpr c5;have c5b1:(a0 != 1)=true:=bne_iff_ne.mpr c5
  (first|rw [c5b0]|(simp only [i64_w,i32_w];rw [c5b0])|skip)
  by_cases c6:a0=2
  ·rw [if_pos c6] at H
   have c6b0:=beq_iff_eq.mpr c6;have c6b1:=bne_eq_false_iff_eq.mpr c6;clear c6;have H':=Aside0.mk H;clear H
   go_wp2
   go_meet
   case rel=>exact ⟨_,(0),(3),(by first|rfl|(simp;done)|(simp [*];done)),(by first|rfl|(simp;done)|(simp [*];done)),H',⟨by first|omega|exact Nat.le_refl _⟩,by repeat (first|exact Drawn0.refl _|apply Drawn0.step)⟩
  rw [if_neg c6] at H;have c6b0:(a0==2)=false:=beq_eq_false_iff_ne.mpr c6;have c6b1:(a0 != 2)=true:=bne_iff_ne.mpr c6;by_cases c7:a0=3
  ·rw [if_pos c7] at H
   have c7b0:=beq_iff_eq.mpr c7;have c7b1:=bne_eq_false_iff_eq.mpr c7;clear c7;have H':=Aside0.mk H;clear H
   go_wp2
   go_meet
   case rel=>exact ⟨_,(0),(3),(by first|rfl|(simp;done)|(simp [*];done)),(by first|rfl|(simp;done)|(simp [*];done)),H',⟨by first|omega|exact Nat.le_refl _⟩,by repeat (first|exact Drawn0.refl _|apply Drawn0.step)⟩
  rw [if_neg c7] at H;have c7b0:(a0==3)=false:=beq_eq_false_iff_ne.mpr c7;have c7b1:(a0 != 3)=true:=bne_iff_ne.mpr c7;by_cases c8:a0=4
  ·rw [if_pos c8] at H
   have c8b0:=beq_iff_eq.mpr c8;have c8b1:=bne_eq_false_iff_eq.mpr c8;clear c8;have H':=Aside0.mk H;clear H
   go_wp2
   go_meet
   case rel=>exact ⟨_,(0),(3),(by first|rfl|(simp;done)|(simp [*];done)),(by first|rfl|(simp;done)|(simp [*];done)),H',⟨by first|omega|exact Nat.le_refl _⟩,by repeat (first|exact Drawn0.refl _|apply Drawn0.step)⟩
  rw [if_neg c8] at H;have c8b0:(a0==4)=false:=beq_eq_false_iff_ne.mpr c8;have c8b1:(a0 != 4)=true:=bne_iff_ne.mpr c8;have H':=Aside0.mk H;clear H
  go_wp2
  go_meet
  case rel=>exact ⟨_,(8),(3),(by first|rfl|(simp;done)|(simp [*];done)),(by first|rfl|(simp;done)|(simp [*];done)),H',⟨by first|omega|exact Nat.le_refl _⟩,by repeat (first|exact Drawn0.refl _|apply Drawn0.step)⟩
 case rest =>
  clear HC4;obtain ⟨kq,x6_3,x9_3,rfl,rfl,HA,HJ3,⟨mc3,rfl⟩⟩:=hcut
  cases kq with
  | zero=>exact absurd HA.out (by simp [gr_params.j0])
  | succ kj3 =>
   have H:=HA.out;clear HA;simp only [gr_params.j0] at H;have HC9:=Aside0.mk H;clear H
   go_upto_region 9 with (fail)
   go_cut [24] (fun v24 wc=>∃ (kq:Nat) (x24_8:Bool),v24 = .bool x24_8∧Aside0 (gr_params.j1 kq a0 l1 x6_3 0 0 x9_3 x24_8=some (r1,r2,r3))∧Aside0 (kq≤kj3)∧Drawn0 w wc)
   case first =>
    have H:=HC9.out;clear HC9;by_cases c10:a2<0
    ·rw [if_pos c10] at H
     have c10b0:=decide_eq_true c10;clear c10
     (first|rw [c10b0]|(simp only [i64_w,i32_w];rw [c10b0])|skip)
     have H':=Aside0.mk H;clear H
     go_wp2
     go_meet
     case rel=>exact ⟨_,(true),(by first|rfl|(simp;done)|(simp [*];done)),H',⟨by have:=HJ3.out;first|omega|exact Nat.le_refl _⟩,by repeat (first|exact Drawn0.refl _|apply Drawn0.step)⟩
    rw [if_neg c10] at H;have c10b0:=decide_eq_false c10;clear c10
    (first|rw [c10b0]|(simp only [i64_w,i32_w];rw [c10b0])|skip)
    have H':=Aside0.mk H;clear H
    go_wp2
    go_meet
    case rel=>exact ⟨_,(decide (a2>2)),(by first|rfl|(simp;done)|(simp [*];done)),H',⟨by have:=HJ3.out;first|omega|exact Nat.le_refl _⟩,by repeat (first|exact Drawn0.refl _|apply Drawn0.step)⟩
   case rest =>
    clear HC9;obtain ⟨kq,x24_8,rfl,HA,HJ8,⟨mc8,rfl⟩⟩:=hcut
    cases kq with
    | zero=>exact absurd HA.out (by simp [gr_params.j1])
    | succ kj8 =>
     have H:=HA.out;clear HA;simp only [gr_params.j1] at H;have HC11:=Aside0.mk H;clear H
     go_upto_if 24 with (fail)
     go_cut [6] (fun v6 wc=>∃ (kq:Nat) (x6_10:Int),v6 = .int .i64 x6_10∧Aside0 (gr_params.j2 kq a0 l1 x6_10 0 0 x9_3=some (r1,r2,r3))∧Aside0 (kq≤kj8)∧Drawn0 w wc)
     case first =>
      have H:=HC11.out;clear HC11;by_cases c12:x24_8=true
      ·subst c12
       have H1:(gr_params.j2 kj8 a0 l1 8 0 0 x9_3)=some (r1,r2,r3):=by rw [if_pos rfl] at H;exact H
       clear H;have H:=H1;clear H1;have H':=Aside0.mk H;clear H
       go_wp2
       go_meet
       case rel=>exact ⟨_,(8),(by first|rfl|(simp;done)|(simp [*];done)),H',⟨by have:=HJ3.out;have:=HJ8.out;first|omega|exact Nat.le_refl _⟩,by repeat (first|exact Drawn0.refl _|apply Drawn0.step)⟩
      replace c12:=Bool.eq_false_iff.mpr c12;subst c12
      have H1:(gr_params.j2 kj8 a0 l1 x6_3 0 0 x9_3)=some (r1,r2,r3):=by rw [if_neg (show ¬ (false=true) by decide)] at H;exact H
      clear H;have H:=H1;clear H1;have H':=Aside0.mk H;clear H
      go_wp2
      go_meet
      case rel=>exact ⟨_,(x6_3),(by first|rfl|(simp;done)|(simp [*];done)),H',⟨by have:=HJ3.out;have:=HJ8.out;first|omega|exact Nat.le_refl _⟩,by repeat (first|exact Drawn0.refl _|apply Drawn0.step)⟩
     case rest =>
      clear HC11;obtain ⟨kq,x6_10,rfl,HA,HJ10,⟨mc10,rfl⟩⟩:=hcut
      cases kq with
      | zero=>exact absurd HA.out (by simp [gr_params.j2])
      | succ kj10 =>
       have H:=HA.out;clear HA;simp only [gr_params.j2] at H;by_cases c13:(l1.length:Int)=x9_3
       ·rw [if_pos c13] at H
        have c13b0:=beq_iff_eq.mpr c13;have c13b1:=bne_eq_false_iff_eq.mpr c13;clear c13;have H':=Aside0.mk H;clear H
        go_wp2
        go_loopg [8,31] kj10 (fun kq v8 v31 w'=>∃ (x8_4:Int) (x31_4:Int),v8 = .int .i64 x8_4∧v31 = .int .i64 x31_4∧Aside0 (gr_params.l0 kq a0 l1 x6_10 0 x8_4 l1 (l1.length:Int) x31_4=some (r1,r2,r3))∧Aside0 (kq≤kj10)∧Drawn0 w w')
        case atStart=>exact ⟨(0),(0),(by first|rfl|(simp;done)|(simp [*];done)),(by first|rfl|(simp;done)|(simp [*];done)),H',⟨Nat.le_refl _⟩,by repeat (first|exact Drawn0.refl _|apply Drawn0.step)⟩
        case round =>
         clear H';obtain ⟨x8_4,x31_4,rfl,rfl,HA,HK4,⟨m4,rfl⟩⟩:=hrel
         cases gk with
         | zero=>exact absurd HA.out (by simp [gr_params.l0])
         | succ k4 =>
          have H:=HA.out;clear HA;simp only [gr_params.l0] at H;by_cases c14:x31_4<(l1.length:Int)
          ·rw [if_pos c14] at H
           have c14b0:=decide_eq_true c14;clear c14;by_cases c15:0≤x31_4
           ·rw [if_pos c15] at H
            have c15b0:=decide_eq_true c15;clear c15;by_cases c16:x31_4<(l1.length:Int)
            ·rw [if_pos c16] at H
             have c16b0:=decide_eq_true c16;clear c16;by_cases c17:(rd l1 x31_4)<(-1048576)
             ·rw [if_pos c17] at H
              have c17b0:=decide_eq_true c17;clear c17;have H':=Aside0.mk H;clear H
              have p129:0≤(x31_4:Int):=of_decide_eq_true (by first|(with_reducible assumption)|assumption)
              have q129:x31_4<(l1.length:Int):=of_decide_eq_true (by first|(with_reducible assumption)|assumption)
              obtain ⟨ad129,e129,hx129_0⟩:=Kd.at_int HR1.out x31_4 p129 q129;cases e129;replace p129:=eq_true p129;replace q129:=eq_true q129
              go_wp2
              go_roundg k4
              case measure=>have:=HJ3.out;have:=HJ8.out;have:=HJ10.out;have:=HK4.out;omega
              case rel=>exact ⟨(2),(wrap64 (x31_4+1)),(by first|rfl|(simp;done)|(simp [*];done)),(by first|rfl|(simp;done)|(simp [*];done)),H',⟨by have:=HJ3.out;have:=HJ8.out;have:=HJ10.out;have:=HK4.out;omega⟩,by repeat (first|exact Drawn0.refl _|apply Drawn0.step)⟩
             rw [if_neg c17] at H;have c17b0:=decide_eq_false c17;clear c17;by_cases c18:(rd l1 x31_4)>1048576
             ·rw [if_pos c18] at H
              have c18b0:=decide_eq_true c18;clear c18;have H':=Aside0.mk H;clear H
              have p129:0≤(x31_4:Int):=of_decide_eq_true (by first|(with_reducible assumption)|assumption)
              have q129:x31_4<(l1.length:Int):=of_decide_eq_true (by first|(with_reducible assumption)|assumption)
              obtain ⟨ad129,e129,hx129_0⟩:=Kd.at_int HR1.out x31_4 p129 q129;cases e129;replace p129:=eq_true p129;replace q129:=eq_true q129
              go_wp2
              go_roundg k4
              case measure=>have:=HJ3.out;have:=HJ8.out;have:=HJ10.out;have:=HK4.out;omega
              case rel=>exact ⟨(2),(wrap64 (x31_4+1)),(by first|rfl|(simp;done)|(simp [*];done)),(by first|rfl|(simp;done)|(simp [*];done)),H',⟨by have:=HJ3.out;have:=HJ8.out;have:=HJ10.out;have:=HK4.out;omega⟩,by repeat (first|exact Drawn0.refl _|apply Drawn0.step)⟩
             rw [if_neg c18] at H;have c18b0:=decide_eq_false c18;clear c18;have H':=Aside0.mk H;clear H
             have p129:0≤(x31_4:Int):=of_decide_eq_true (by first|(with_reducible assumption)|assumption)
             have q129:x31_4<(l1.length:Int):=of_decide_eq_true (by first|(with_reducible assumption)|assumption)
             obtain ⟨ad129,e129,hx129_0⟩:=Kd.at_int HR1.out x31_4 p129 q129;cases e129;replace p129:=eq_true p129;replace q129:=eq_true q129
             go_wp2
             go_roundg k4
             case measure=>have:=HJ3.out;have:=HJ8.out;have:=HJ10.out;have:=HK4.out;omega
             case rel=>exact ⟨(x8_4),(wrap64 (x31_4+1)),(by first|rfl|(simp;done)|(simp [*];done)),(by first|rfl|(simp;done)|(simp [*];done)),H',⟨by have:=HJ3.out;have:=HJ8.out;have:=HJ10.out;have:=HK4.out;omega⟩,by repeat (first|exact Drawn0.refl _|apply Drawn0.step)⟩
            rw [if_neg c16] at H
            exact absurd H (by simp)
           rw [if_neg c15] at H
           exact absurd H (by simp)
          rw [if_neg c14] at H;have c14b0:=decide_eq_false c14;clear c14;by_cases c19:a0=2
          ·rw [if_pos c19] at H
           have c19b0:=beq_iff_eq.mpr c19;have c19b1:=bne_eq_false_iff_eq.mpr c19;clear c19;by_cases c20:2<(l1.length:Int)
           ·rw [if_pos c20] at H
            have c20b0:=decide_eq_true c20
            have c20b1:decide (2<l1.length)=true:=decide_eq_true (by omega)
            clear c20;by_cases c21:(rd l1 2)<0
            ·rw [if_pos c21] at H
             have c21b0:=decide_eq_true c21;clear c21;simp only [Option.some.injEq,Prod.mk.injEq] at H;obtain ⟨rfl,rfl,rfl⟩:=H
             have p130:0≤(2:Int):=(by omega)
             have q130:2<(l1.length:Int):=of_decide_eq_true (by first|(with_reducible assumption)|assumption)
             obtain ⟨ad130,e130,hx130_0⟩:=Kd.at_int HR1.out 2 p130 q130;cases e130
             (try simp only [show (2:Int).toNat=2 from rfl,Nat.reduceMul,Nat.reduceEqDiff,Go.Addr.add,↓reduceIte] at hx130_0)
             have qi130:(2<l1.length)=True:=eq_true (by omega)
             (try rw [show ((2:Int)).toNat=2 from rfl] at hx130_0)
             replace p130:=eq_true p130;replace q130:=eq_true q130
             go_wp2
             go_ret3
             exact ⟨by first|rfl|(simp;done)|(simp [*];done),by repeat (first|exact Drawn0.refl _|apply Drawn0.step)⟩
            rw [if_neg c21] at H;have c21b0:=decide_eq_false c21;clear c21;simp only [Option.some.injEq,Prod.mk.injEq] at H;obtain ⟨rfl,rfl,rfl⟩:=H
            have p130:0≤(2:Int):=(by omega)
            have q130:2<(l1.length:Int):=of_decide_eq_true (by first|(with_reducible assumption)|assumption)
            obtain ⟨ad130,e130,hx130_0⟩:=Kd.at_int HR1.out 2 p130 q130;cases e130
            (try simp only [show (2:Int).toNat=2 from rfl,Nat.reduceMul,Nat.reduceEqDiff,Go.Addr.add,↓reduceIte] at hx130_0)
            have qi130:(2<l1.length)=True:=eq_true (by omega)
            (try rw [show ((2:Int)).toNat=2 from rfl] at hx130_0)
            replace p130:=eq_true p130;replace q130:=eq_true q130
            go_wp2
            go_ret3
            exact ⟨by first|rfl|(simp;done)|(simp [*];done),by repeat (first|exact Drawn0.refl _|apply Drawn0.step)⟩
           rw [if_neg c20] at H
           exact absurd H (by simp)
          rw [if_neg c19] at H;have c19b0:(a0==2)=false:=beq_eq_false_iff_ne.mpr c19;have c19b1:(a0 != 2)=true:=bne_iff_ne.mpr c19;by_cases c22:a0=4
          ·rw [if_pos c22] at H
           have c22b0:=beq_iff_eq.mpr c22;have c22b1:=bne_eq_false_iff_eq.mpr c22;clear c22;by_cases c23:2<(l1.length:Int)
           ·rw [if_pos c23] at H
            have c23b0:=decide_eq_true c23
            have c23b1:decide (2<l1.length)=true:=decide_eq_true (by omega)
            clear c23;by_cases c24:(rd l1 2)<0
            ·rw [if_pos c24] at H
             have c24b0:=decide_eq_true c24;clear c24;simp only [Option.some.injEq,Prod.mk.injEq] at H;obtain ⟨rfl,rfl,rfl⟩:=H
             have p131:0≤(2:Int):=(by omega)
             have q131:2<(l1.length:Int):=of_decide_eq_true (by first|(with_reducible assumption)|assumption)
             obtain ⟨ad131,e131,hx131_0⟩:=Kd.at_int HR1.out 2 p131 q131;cases e131
             (try simp only [show (2:Int).toNat=2 from rfl,Nat.reduceMul,Nat.reduceEqDiff,Go.Addr.add,↓reduceIte] at hx131_0)
             have qi131:(2<l1.length)=True:=eq_true (by omega)
             (try rw [show ((2:Int)).toNat=2 from rfl] at hx131_0)
             replace p131:=eq_true p131;replace q131:=eq_true q131
             go_wp2
             go_ret3
             exact ⟨by first|rfl|(simp;done)|(simp [*];done),by repeat (first|exact Drawn0.refl _|apply Drawn0.step)⟩
            rw [if_neg c24] at H;have c24b0:=decide_eq_false c24;clear c24;simp only [Option.some.injEq,Prod.mk.injEq] at H;obtain ⟨rfl,rfl,rfl⟩:=H
            have p131:0≤(2:Int):=(by omega)
            have q131:2<(l1.length:Int):=of_decide_eq_true (by first|(with_reducible assumption)|assumption)
            obtain ⟨ad131,e131,hx131_0⟩:=Kd.at_int HR1.out 2 p131 q131;cases e131
            (try simp only [show (2:Int).toNat=2 from rfl,Nat.reduceMul,Nat.reduceEqDiff,Go.Addr.add,↓reduceIte] at hx131_0)
            have qi131:(2<l1.length)=True:=eq_true (by omega)
            (try rw [show ((2:Int)).toNat=2 from rfl] at hx131_0)
            replace p131:=eq_true p131;replace q131:=eq_true q131
            go_wp2
            go_ret3
            exact ⟨by first|rfl|(simp;done)|(simp [*];done),by repeat (first|exact Drawn0.refl _|apply Drawn0.step)⟩
           rw [if_neg c23] at H
           exact absurd H (by simp)
          rw [if_neg c22] at H;have c22b0:(a0==4)=false:=beq_eq_false_iff_ne.mpr c22;have c22b1:(a0 != 4)=true:=bne_iff_ne.mpr c22;simp only [Option.some.injEq,Prod.mk.injEq] at H;obtain ⟨rfl,rfl,rfl⟩:=H
          go_wp2
          go_ret3
          exact ⟨by first|rfl|(simp;done)|(simp [*];done),by repeat (first|exact Drawn0.refl _|apply Drawn0.step)⟩
       rw [if_neg c13] at H;have c13b0:((l1.length:Int)==x9_3)=false:=beq_eq_false_iff_ne.mpr c13;have c13b1:((l1.length:Int) != x9_3)=true:=bne_iff_ne.mpr c13;simp only [Option.some.injEq,Prod.mk.injEq] at H;obtain ⟨rfl,rfl,rfl⟩:=H
       go_wp2
       go_ret3
       exact ⟨by first|rfl|(simp;done)|(simp [*];done),by repeat (first|exact Drawn0.refl _|apply Drawn0.step)⟩

/-! ### num_Clamp: function 31 -/
def num_Clamp.f (a0:Int) (a1:Int) (a2:Int):Option (Int):=some (mn a2 (mx a0 a1))
set_option maxHeartbeats 8000000 in
set_option maxRecDepth 100000 in
theorem num_Clamp.calls (a0:Int) (a1:Int) (a2:Int) (r:Int) (w:World) (h:num_Clamp.f a0 a1 a2=some r) :
  Calls Try.prog 31 #[.int .i64 a0,.int .i64 a1,.int .i64 a2] w fun e w'=>e = .returned (.int .i64 r)∧Below w.heap.size w w':=by
 have HB:=Aside0.mk (Below.refl w.heap.size w);have H:(some (mn a2 (mx a0 a1)))=some r:=h;clear h;obtain ⟨ji4,hji4⟩:∃ j_:Int,(mx a0 a1)=j_:=⟨_,rfl⟩
 replace H:(some (mn a2 (ji4)))=some r:=by first|(rw [hji4] at H;exact H)|(simp only [hji4] at H ⊢;exact H)
 have hji4_:(if a0<a1 then a1 else a0)=ji4:=hji4
 obtain ⟨ji5,hji5⟩:∃ j_:Int,(mn a2 (ji4))=j_:=⟨_,rfl⟩
 replace H:(some ji5)=some r:=by first|(rw [hji5] at H;exact H)|(simp only [hji5] at H ⊢;exact H)
 have hji5_:(if (ji4)<a2 then (ji4) else a2)=ji5:=hji5
 obtain rfl:=Option.some.inj H
 go_enter Try.func31,Try.ntmps31
 go_wp2
 go_ret
 exact ⟨by first|rfl|(simp [errW_none,errW_some] <;> rfl)|(simp only [← hji4,← hji5];first|rfl|(simp [errW_none,errW_some] <;> rfl))|(simp [*,errW_none,errW_some] <;> rfl),by repeat first|(with_reducible first|exact HB.out|apply lA_|apply lN_|apply lD_)|exact HB.out⟩

/-! ### num_Floor: function 57 -/
def num_Floor.f (a0:Int) (a1:Int):Option (Int):=if a1=0 then (some 0) else (if a1=(-1) then (if a0=(-9223372036854775808) then (some 9223372036854775807) else (some (wrap64 (-a0)))) else (if (Int.tmod a0 a1)=0 then (some (wrap64 (Int.tdiv a0 a1))) else (if ((decide (a0<0)) != (decide (a1<0)))=true then (some (wrap64 ((wrap64 (Int.tdiv a0 a1))-1))) else (some (wrap64 (Int.tdiv a0 a1))))))
set_option maxHeartbeats 8000000 in
set_option maxRecDepth 100000 in
theorem num_Floor.calls (a0:Int) (a1:Int) (r:Int) (w:World) (h:num_Floor.f a0 a1=some r) :
  Calls Try.prog 57 #[.int .i64 a0,.int .i64 a1] w fun e w'=>e = .returned (.int .i64 r)∧Drawn0 w w':=by
 have H:(if a1=0 then (some 0) else (if a1=(-1) then (if a0=(-9223372036854775808) then (some 9223372036854775807) else (some (wrap64 (-a0)))) else (if (Int.tmod a0 a1)=0 then (some (wrap64 (Int.tdiv a0 a1))) else (if ((decide (a0<0)) != (decide (a1<0)))=true then (some (wrap64 ((wrap64 (Int.tdiv a0 a1))-1))) else (some (wrap64 (Int.tdiv a0 a1)))))))=some r:=h
 clear h;by_cases c3:a1=0
 ·rw [if_pos c3] at H
  have c3b0:=beq_iff_eq.mpr c3;have c3b1:=bne_eq_false_iff_eq.mpr c3;clear c3;obtain rfl:=Option.some.inj H
  go_enter Try.func57,Try.ntmps57
  go_wp2
  go_ret
  exact ⟨by first|rfl|(simp;done)|(simp [*];done),by repeat (first|exact Drawn0.refl _|apply Drawn0.step)⟩
 rw [if_neg c3] at H;have c3b0:(a1==0)=false:=beq_eq_false_iff_ne.mpr c3;have c3b1:(a1 != 0)=true:=bne_iff_ne.mpr c3;by_cases c4:a1=(-1)
 ·rw [if_pos c4] at H
  have c4b0:=beq_iff_eq.mpr c4;have c4b1:=bne_eq_false_iff_eq.mpr c4;clear c4;by_cases c5:a0=(-9223372036854775808)
  ·rw [if_pos c5] at H
   have c5b0:=beq_iff_eq.mpr c5;have c5b1:=bne_eq_false_iff_eq.mpr c5;clear c5;obtain rfl:=Option.some.inj H
   go_enter Try.func57,Try.ntmps57
   go_wp2
   go_ret
   exact ⟨by first|rfl|(simp;done)|(simp [*];done),by repeat (first|exact Drawn0.refl _|apply Drawn0.step)⟩
  rw [if_neg c5] at H;have c5b0:(a0==(-9223372036854775808))=false:=beq_eq_false_iff_ne.mpr c5;have c5b1:(a0 != (-9223372036854775808))=true:=bne_iff_ne.mpr c5;obtain rfl:=Option.some.inj H
  go_enter Try.func57,Try.ntmps57
  go_wp2
  go_ret
  exact ⟨by first|rfl|(simp;done)|(simp [*];done),by repeat (first|exact Drawn0.refl _|apply Drawn0.step)⟩
 rw [if_neg c4] at H;have c4b0:(a1==(-1))=false:=beq_eq_false_iff_ne.mpr c4;have c4b1:(a1 != (-1))=true:=bne_iff_ne.mpr c4;by_cases c6:(Int.tmod a0 a1)=0
 ·rw [if_pos c6] at H
  have c6b0:=beq_iff_eq.mpr c6;have c6b1:=bne_eq_false_iff_eq.mpr c6;clear c6;obtain rfl:=Option.some.inj H
  go_enter Try.func57,Try.ntmps57
  go_wp2
  go_ret
  exact ⟨by first|rfl|(simp;done)|(simp [*];done),by repeat (first|exact Drawn0.refl _|apply Drawn0.step)⟩
 rw [if_neg c6] at H;have c6b0:((Int.tmod a0 a1)==0)=false:=beq_eq_false_iff_ne.mpr c6;have c6b1:((Int.tmod a0 a1) != 0)=true:=bne_iff_ne.mpr c6;by_cases c7:((decide (a0<0)) != (decide (a1<0)))=true
 ·rw [if_pos c7] at H
  have c7b0:((decide (a0<0)) != (decide (a1<0)))=true:=c7
  (try (have c7b1:decide ((decide (a0<0))=(decide (a1<0)))=false:=by simpa using c7))
  (try (have c7b2:((decide (a0<0))==(decide (a1<0)))=false:=by simpa using c7))
  (try (have c7b3:¬ ((decide (a0<0))=(decide (a1<0))):=by simpa using c7))
  clear c7;obtain rfl:=Option.some.inj H
  go_enter Try.func57,Try.ntmps57
  go_wp2
  go_ret
  exact ⟨by first|rfl|(simp;done)|(simp [*];done),by repeat (first|exact Drawn0.refl _|apply Drawn0.step)⟩
 rw [if_neg c7] at H
 have c7b0:((decide (a0<0)) != (decide (a1<0)))=false:=by simpa using c7
 (try (have c7b1:decide ((decide (a0<0))=(decide (a1<0)))=true:=by simpa using c7))
 (try (have c7b2:((decide (a0<0))==(decide (a1<0)))=true:=by simpa using c7))
 clear c7;obtain rfl:=Option.some.inj H
 go_enter Try.func57,Try.ntmps57
 go_wp2
 go_ret
 exact ⟨by first|rfl|(simp;done)|(simp [*];done),by repeat (first|exact Drawn0.refl _|apply Drawn0.step)⟩

/-! ### gr_modulo: function 42 -/
def gr_modulo.f (a0:Int) (a1:Int):Option (Int):=(num_Floor.f a0 a1).bind fun t132=>(some (wrap64 (a0-(wrap64 (t132*a1)))))
set_option maxHeartbeats 8000000 in
set_option maxRecDepth 100000 in
theorem gr_modulo.calls (a0:Int) (a1:Int) (r:Int) (w:World) (h:gr_modulo.f a0 a1=some r) :
  Calls Try.prog 42 #[.int .i64 a0,.int .i64 a1] w fun e w'=>e = .returned (.int .i64 r)∧Drawn0 w w':=by
 have H:((num_Floor.f a0 a1).bind fun t132=>(some (wrap64 (a0-(wrap64 (t132*a1))))))=some r:=h
 clear h;replace H:=Option.bind_eq_some_iff.mp H;obtain ⟨t132,A30,H⟩:=H;replace H:(some (wrap64 (a0-(wrap64 (t132*a1)))))=some r:=H;have A3:=Aside0.mk A30;clear A30;obtain rfl:=Option.some.inj H
 go_enter Try.func42,Try.ntmps42
 go_wp2_with (first|((with_reducible refine gate_callee (f:=57) rfl ?_);refine goesL_ (some 8) rfl rfl Try.func57 (by kernel_rfl) rfl #[.int .i64 a0,.int .i64 a1] rfl (by (try simp only [mA_,mC_,mN_]);first|done|rfl|(simp only [dL_,kL_];rfl)) ?_;(with_reducible refine (num_Floor.calls a0 a1 t132 _ A3.out).mono ?_);rintro e w' ⟨rfl,⟨nd,rfl⟩⟩;refine ⟨_,rfl,?_⟩))
 go_ret
 exact ⟨by first|rfl|(simp;done)|(simp [*];done),by repeat (first|exact Drawn0.refl _|apply Drawn0.step)⟩

/-! ### num_Div: function 46 -/
def num_Div.j0:Nat→Int→Int→Int→Bool→Option (Int)
 | 0,_,_,_,_=>none
 | k+1,x0,x1,x5,x15=>if x15=true then (some x5) else (if x1>0 then (if (wrap64 (x0-(wrap64 (x5*x1))))≥(wrap64 (x1-(wrap64 (x0-(wrap64 (x5*x1)))))) then (some (wrap64 (x5+1))) else (if x1<0 then (if (wrap64 (x0-(wrap64 (x5*x1))))≤(wrap64 (x1-(wrap64 (x0-(wrap64 (x5*x1)))))) then (some (wrap64 (x5+1))) else (some x5)) else (some x5))) else (if x1<0 then (if (wrap64 (x0-(wrap64 (x5*x1))))≤(wrap64 (x1-(wrap64 (x0-(wrap64 (x5*x1)))))) then (some (wrap64 (x5+1))) else (some x5)) else (some x5)))
def num_Div.f (k:Nat) (a0:Int) (a1:Int):Option (Int):=(num_Floor.f a0 a1).bind fun t133=>(if a1=0 then (num_Div.j0 k a0 a1 t133 true) else (num_Div.j0 k a0 a1 t133 (a1==(-1))))
theorem num_Div.mono_l:∀ k,(∀ y0 y1 y2 y3,LeO (num_Div.j0 k y0 y1 y2 y3) (num_Div.j0 (k+1) y0 y1 y2 y3))
 | 0=>fun _ _ _ _ r h=>by simp [num_Div.j0] at h
 | k+1=>by
  have ih0:=num_Div.mono_l k
  ·intro y0 y1 y2 y3
   unfold num_Div.j0
   repeat' first
   | (with_reducible exact ih0 _ _ _ _)
   | (with_reducible exact LeO.refl _)
   | (with_reducible exact LeO.none _)
   | (with_reducible refine LeO.ite ?_ ?_)
   | (with_reducible refine LeO.bind ?_ (fun _=>?_))
theorem num_Div.mono:∀ a0 a1 k,LeO (num_Div.f k a0 a1) (num_Div.f (k+1) a0 a1):=by
 intro a0 a1 k;have ih0:=num_Div.mono_l k
 unfold num_Div.f
 repeat' first
   | (with_reducible exact ih0 _ _ _ _)
   | (with_reducible exact LeO.refl _)
   | (with_reducible exact LeO.none _)
   | (with_reducible refine LeO.ite ?_ ?_)
   | (with_reducible refine LeO.bind ?_ (fun _=>?_))
set_option maxHeartbeats 8000000 in
set_option maxRecDepth 100000 in
theorem num_Div.calls (k:Nat) (a0:Int) (a1:Int) (r:Int) (w:World) (h:num_Div.f k a0 a1=some r) :
  Calls Try.prog 46 #[.int .i64 a0,.int .i64 a1] w fun e w'=>e = .returned (.int .i64 r)∧Drawn0 w w':=by
 have H:((num_Floor.f a0 a1).bind fun t133=>(if a1=0 then (num_Div.j0 k a0 a1 t133 true) else (num_Div.j0 k a0 a1 t133 (a1==(-1)))))=some r:=h
 clear h;replace H:=Option.bind_eq_some_iff.mp H;obtain ⟨t133,A30,H⟩:=H
 replace H:(if a1=0 then (num_Div.j0 k a0 a1 t133 true) else (num_Div.j0 k a0 a1 t133 (a1==(-1))))=some r:=H
 have A3:=Aside0.mk A30;clear A30;have HC4:=Aside0.mk H;clear H
 go_enter Try.func46,Try.ntmps46
 go_upto_region 2 with (first|((with_reducible refine gate_callee (f:=57) rfl ?_);refine goesL_ (some 9) rfl rfl Try.func57 (by kernel_rfl) rfl #[.int .i64 a0,.int .i64 a1] rfl (by (try simp only [mA_,mC_,mN_]);first|done|rfl|(simp only [dL_,kL_];rfl)) ?_;(with_reducible refine (num_Floor.calls a0 a1 t133 _ A3.out).mono ?_);rintro e w' ⟨rfl,⟨nd,rfl⟩⟩;refine ⟨_,rfl,?_⟩))
 (try simp only [Act.put,tS_,tZ_,tC_])
 go_cut [15] (fun v15 wc=>∃ (kq:Nat) (x15_3:Bool),v15 = .bool x15_3∧Aside0 (num_Div.j0 kq a0 a1 t133 x15_3=some r)∧Aside0 (kq≤k)∧Drawn0 w wc)
 case first =>
  have H:=HC4.out;clear HC4;by_cases c5:a1=0
  ·rw [if_pos c5] at H
   have c5b0:=beq_iff_eq.mpr c5;have c5b1:=bne_eq_false_iff_eq.mpr c5;clear c5
   (first|rw [c5b0]|(simp only [i64_w,i32_w];rw [c5b0])|skip)
   have H':=Aside0.mk H;clear H
   go_wp2
   go_meet
   case rel=>exact ⟨_,(true),(by first|rfl|(simp;done)|(simp [*];done)),H',⟨by first|omega|exact Nat.le_refl _⟩,by repeat (first|exact Drawn0.refl _|apply Drawn0.step)⟩
  rw [if_neg c5] at H;have c5b0:(a1==0)=false:=beq_eq_false_iff_ne.mpr c5;have c5b1:(a1 != 0)=true:=bne_iff_ne.mpr c5
  (first|rw [c5b0]|(simp only [i64_w,i32_w];rw [c5b0])|skip)
  have H':=Aside0.mk H;clear H
  go_wp2
  go_meet
  case rel=>exact ⟨_,((a1==(-1))),(by first|rfl|(simp;done)|(simp [*];done)),H',⟨by first|omega|exact Nat.le_refl _⟩,by repeat (first|exact Drawn0.refl _|apply Drawn0.step)⟩
 case rest =>
  clear HC4;obtain ⟨kq,x15_3,rfl,HA,HJ3,⟨mc3,rfl⟩⟩:=hcut
  cases kq with
  | zero=>exact absurd HA.out (by simp [num_Div.j0])
  | succ kj3 =>
   have H:=HA.out;clear HA;simp only [num_Div.j0] at H;by_cases c6:x15_3=true
   ·subst c6
    have H1:(some t133)=some r:=by rw [if_pos rfl] at H;exact H
    clear H;have H:=H1;clear H1;obtain rfl:=Option.some.inj H
    go_wp2
    go_ret
    exact ⟨by first|rfl|(simp;done)|(simp [*];done),by repeat (first|exact Drawn0.refl _|apply Drawn0.step)⟩
   replace c6:=Bool.eq_false_iff.mpr c6;subst c6
   have H1:(if a1>0 then (if (wrap64 (a0-(wrap64 (t133*a1))))≥(wrap64 (a1-(wrap64 (a0-(wrap64 (t133*a1)))))) then (some (wrap64 (t133+1))) else (if a1<0 then (if (wrap64 (a0-(wrap64 (t133*a1))))≤(wrap64 (a1-(wrap64 (a0-(wrap64 (t133*a1)))))) then (some (wrap64 (t133+1))) else (some t133)) else (some t133))) else (if a1<0 then (if (wrap64 (a0-(wrap64 (t133*a1))))≤(wrap64 (a1-(wrap64 (a0-(wrap64 (t133*a1)))))) then (some (wrap64 (t133+1))) else (some t133)) else (some t133)))=some r:=by rw [if_neg (show ¬ (false=true) by decide)] at H;exact H
   clear H;have H:=H1;clear H1;by_cases c7:a1>0
   ·rw [if_pos c7] at H
    have c7b0:=decide_eq_true c7;clear c7;by_cases c8:(wrap64 (a0-(wrap64 (t133*a1))))≥(wrap64 (a1-(wrap64 (a0-(wrap64 (t133*a1))))))
    ·rw [if_pos c8] at H
     have c8b0:=decide_eq_true c8;clear c8;obtain rfl:=Option.some.inj H
     go_wp2
     go_ret
     exact ⟨by first|rfl|(simp;done)|(simp [*];done),by repeat (first|exact Drawn0.refl _|apply Drawn0.step)⟩
    rw [if_neg c8] at H;have c8b0:=decide_eq_false c8;clear c8;by_cases c9:a1<0
    ·rw [if_pos c9] at H
     have c9b0:=decide_eq_true c9;clear c9;by_cases c10:(wrap64 (a0-(wrap64 (t133*a1))))≤(wrap64 (a1-(wrap64 (a0-(wrap64 (t133*a1))))))
     ·rw [if_pos c10] at H
      have c10b0:=decide_eq_true c10;clear c10;obtain rfl:=Option.some.inj H
      go_wp2
      go_ret
      exact ⟨by first|rfl|(simp;done)|(simp [*];done),by repeat (first|exact Drawn0.refl _|apply Drawn0.step)⟩
     rw [if_neg c10] at H;have c10b0:=decide_eq_false c10;clear c10;obtain rfl:=Option.some.inj H
     go_wp2
     go_ret
     exact ⟨by first|rfl|(simp;done)|(simp [*];done),by repeat (first|exact Drawn0.refl _|apply Drawn0.step)⟩
    rw [if_neg c9] at H;have c9b0:=decide_eq_false c9;clear c9;obtain rfl:=Option.some.inj H
    go_wp2
    go_ret
    exact ⟨by first|rfl|(simp;done)|(simp [*];done),by repeat (first|exact Drawn0.refl _|apply Drawn0.step)⟩
   rw [if_neg c7] at H;have c7b0:=decide_eq_false c7;clear c7;by_cases c11:a1<0
   ·rw [if_pos c11] at H
    have c11b0:=decide_eq_true c11;clear c11;by_cases c12:(wrap64 (a0-(wrap64 (t133*a1))))≤(wrap64 (a1-(wrap64 (a0-(wrap64 (t133*a1))))))
    ·rw [if_pos c12] at H
     have c12b0:=decide_eq_true c12;clear c12;obtain rfl:=Option.some.inj H
     go_wp2
     go_ret
     exact ⟨by first|rfl|(simp;done)|(simp [*];done),by repeat (first|exact Drawn0.refl _|apply Drawn0.step)⟩
    rw [if_neg c12] at H;have c12b0:=decide_eq_false c12;clear c12;obtain rfl:=Option.some.inj H
    go_wp2
    go_ret
    exact ⟨by first|rfl|(simp;done)|(simp [*];done),by repeat (first|exact Drawn0.refl _|apply Drawn0.step)⟩
   rw [if_neg c11] at H;have c11b0:=decide_eq_false c11;clear c11;obtain rfl:=Option.some.inj H
   go_wp2
   go_ret
   exact ⟨by first|rfl|(simp;done)|(simp [*];done),by repeat (first|exact Drawn0.refl _|apply Drawn0.step)⟩

/-! ### gr_abs: function 55 -/
def gr_abs.f (a0:Int):Option (Int):=some (mx a0 (wrap64 (-a0)))
set_option maxHeartbeats 8000000 in
set_option maxRecDepth 100000 in
theorem gr_abs.calls (a0:Int) (r:Int) (w:World) (h:gr_abs.f a0=some r) :
  Calls Try.prog 55 #[.int .i64 a0] w fun e w'=>e = .returned (.int .i64 r)∧Below w.heap.size w w':=by
 have HB:=Aside0.mk (Below.refl w.heap.size w);have H:(some (mx a0 (wrap64 (-a0))))=some r:=h;clear h;obtain ⟨ji2,hji2⟩:∃ j_:Int,(mx a0 (wrap64 (-a0)))=j_:=⟨_,rfl⟩
 replace H:(some ji2)=some r:=by first|(rw [hji2] at H;exact H)|(simp only [hji2] at H ⊢;exact H)
 have hji2_:(if a0<(wrap64 (-a0)) then (wrap64 (-a0)) else a0)=ji2:=hji2
 obtain rfl:=Option.some.inj H
 go_enter Try.func55,Try.ntmps55
 go_wp2
 go_ret
 exact ⟨by first|rfl|(simp [errW_none,errW_some] <;> rfl)|(simp only [← hji2];first|rfl|(simp [errW_none,errW_some] <;> rfl))|(simp [*,errW_none,errW_some] <;> rfl),by repeat first|(with_reducible first|exact HB.out|apply lA_|apply lN_|apply lD_)|exact HB.out⟩

/-! ### gr_eighth: function 64 -/
def gr_eighth.f (k:Nat) (a0:Int):Option (Int):=(num_Div.f k (wrap64 (a0*(wrap64 (536870912+(wrap64 (2848*(wrap64 (65536-a0)))))))) 4294967296).bind fun t134=>(some t134)
theorem gr_eighth.mono:∀ a0 k,LeO (gr_eighth.f k a0) (gr_eighth.f (k+1) a0):=by
 intro a0 k
 unfold gr_eighth.f
 repeat' first
   | (with_reducible exact num_Div.mono _ _ _)
   | (with_reducible exact LeO.refl _)
   | (with_reducible exact LeO.none _)
   | (with_reducible refine LeO.ite ?_ ?_)
   | (with_reducible refine LeO.bind ?_ (fun _=>?_))
set_option maxHeartbeats 8000000 in
set_option maxRecDepth 100000 in
theorem gr_eighth.calls (k:Nat) (a0:Int) (r:Int) (w:World) (h:gr_eighth.f k a0=some r) :
  Calls Try.prog 64 #[.int .i64 a0] w fun e w'=>e = .returned (.int .i64 r)∧Drawn0 w w':=by
 have H:((num_Div.f k (wrap64 (a0*(wrap64 (536870912+(wrap64 (2848*(wrap64 (65536-a0)))))))) 4294967296).bind fun t134=>(some t134))=some r:=h
 clear h;replace H:=Option.bind_eq_some_iff.mp H;obtain ⟨t134,A20,H⟩:=H;replace H:(some t134)=some r:=H;have A2:=Aside0.mk A20;clear A20;obtain rfl:=Option.some.inj H
 go_enter Try.func64,Try.ntmps64
 go_wp2_with (first|((with_reducible refine gate_callee (f:=46) rfl ?_);refine goesL_ (some 9) rfl rfl Try.func46 (by kernel_rfl) rfl #[.int .i64 (wrap64 (a0*(wrap64 (536870912+(wrap64 (2848*(wrap64 (65536-a0)))))))),.int .i64 4294967296] rfl (by (try simp only [mA_,mC_,mN_]);first|done|rfl|(simp only [dL_,kL_];rfl)) ?_;(with_reducible refine (num_Div.calls k (wrap64 (a0*(wrap64 (536870912+(wrap64 (2848*(wrap64 (65536-a0)))))))) 4294967296 t134 _ A2.out).mono ?_);rintro e w' ⟨rfl,⟨nd,rfl⟩⟩;refine ⟨_,rfl,?_⟩))
 go_ret
 exact ⟨by first|rfl|(simp;done)|(simp [*];done),by repeat (first|exact Drawn0.refl _|apply Drawn0.step)⟩

end Go.Proofs.Ytmlcobnidfkhfaa.Q
