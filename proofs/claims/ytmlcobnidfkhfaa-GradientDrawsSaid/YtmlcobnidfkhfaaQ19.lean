/- Each Go function of the law as a Lean function, with the proof that its call comes to just that, for every input; written by hp.py, a program of this session over the kit own print of the translation. -/
import Derived.Test.YtmlcobnidfkhfaaQ0
import Derived.Test.YtmlcobnidfkhfaaQ15
import Derived.Test.YtmlcobnidfkhfaaQ18
namespace Go.Proofs.Ytmlcobnidfkhfaa.Q
open Go.RowKit Go.Proofs.YtmlcobnidfkhfaaW.PrintWords Go.Proofs.YtmlcobnidfkhfaaW.PrintLast Go.Proofs.YtmlcobnidfkhfaaW.PrintMore
attribute [local go_sem] max2_int min2_int max_two min_two max_three min_three max_four min_four   -- for this text's walks alone
set_option linter.unusedVariables false
set_option linter.unusedSimpArgs false
open Go.Proofs.Ytmlcobnidfkhfaa.Clo Go.Proofs.Ytmlcobnidfkhfaa.Mk0

/-! ### r18_Angle: function 52 -/
mutual
def r18_Angle.j0:Nat→Int→Int→Int→Int→Int→Bool→Option (Int)
 | 0,_,_,_,_,_,_=>none
 | k+1,x0,x1,x5,x6,x7,x18=>if x18=true then ((r01_Div.f k (wrap64 (x6*65536)) x5).bind fun t431=>((r18_eighth.f k t431).bind fun t432=>(r18_Angle.j1 k x0 x1 x5 x6 t432))) else (r18_Angle.j1 k x0 x1 x5 x6 x7)
def r18_Angle.j1:Nat→Int→Int→Int→Int→Int→Option (Int)
 | 0,_,_,_,_,_=>none
 | k+1,x0,x1,x5,x6,x7=>if x5<x6 then ((r01_Div.f k (wrap64 (x5*65536)) x6).bind fun t433=>((r18_eighth.f k t433).bind fun t434=>(r18_Angle.j2 k x0 x1 (wrap64 (16384-t434))))) else (r18_Angle.j2 k x0 x1 x7)
def r18_Angle.j2:Nat→Int→Int→Int→Option (Int)
 | 0,_,_,_=>none
 | k+1,x0,x1,x7=>if x0<0 then (r18_Angle.j3 k x0 x1 x7 (decide (x1<0))) else (r18_Angle.j3 k x0 x1 x7 false)
def r18_Angle.j3:Nat→Int→Int→Int→Bool→Option (Int)
 | 0,_,_,_,_=>none
 | k+1,x0,x1,x7,x38=>if x38=true then (some (wrap64 (32768+x7))) else (if x0<0 then (some (wrap64 (32768-x7))) else (if x1<0 then (some (Int.tmod (wrap64 (65536-x7)) 65536)) else (some x7)))
end
def r18_Angle.f (k:Nat) (a0:Int) (a1:Int):Option (Int):=(r18_abs.f a0).bind fun t429=>((r18_abs.f a1).bind fun t430=>(if t429≥t430 then (r18_Angle.j0 k a0 a1 t429 t430 0 (decide (t429>0))) else (r18_Angle.j0 k a0 a1 t429 t430 0 false)))
theorem r18_Angle.mono_l:∀ k,(∀ y0 y1 y2 y3 y4 y5,LeO (r18_Angle.j0 k y0 y1 y2 y3 y4 y5) (r18_Angle.j0 (k+1) y0 y1 y2 y3 y4 y5))∧(∀ y0 y1 y2 y3 y4,LeO (r18_Angle.j1 k y0 y1 y2 y3 y4) (r18_Angle.j1 (k+1) y0 y1 y2 y3 y4))∧(∀ y0 y1 y2,LeO (r18_Angle.j2 k y0 y1 y2) (r18_Angle.j2 (k+1) y0 y1 y2))∧(∀ y0 y1 y2 y3,LeO (r18_Angle.j3 k y0 y1 y2 y3) (r18_Angle.j3 (k+1) y0 y1 y2 y3))
 | 0=>⟨fun _ _ _ _ _ _ r h=>by simp [r18_Angle.j0] at h,fun _ _ _ _ _ r h=>by simp [r18_Angle.j1] at h,fun _ _ _ r h=>by simp [r18_Angle.j2] at h,fun _ _ _ _ r h=>by simp [r18_Angle.j3] at h⟩
 | k+1=>by
  obtain ⟨ih0,ih1,ih2,ih3⟩:=r18_Angle.mono_l k;refine ⟨?_,?_,?_,?_⟩;intro y0 y1 y2 y3 y4 y5;unfold r18_Angle.j0;rotate_left;intro y0 y1 y2 y3 y4;unfold r18_Angle.j1;rotate_left;intro y0 y1 y2;unfold r18_Angle.j2;rotate_left;intro y0 y1 y2 y3;unfold r18_Angle.j3;rotate_left
  all_goals repeat' first
   | (with_reducible exact ih0 _ _ _ _ _ _)
   | (with_reducible exact ih1 _ _ _ _ _)
   | (with_reducible exact ih2 _ _ _)
   | (with_reducible exact ih3 _ _ _ _)
   | (with_reducible exact r01_Div.mono _ _ _)
   | (with_reducible exact r18_eighth.mono _ _)
   | (with_reducible exact LeO.refl _)
   | (with_reducible exact LeO.none _)
   | (with_reducible refine LeO.ite ?_ ?_)
   | (with_reducible refine LeO.bind ?_ (fun _=>?_))
theorem r18_Angle.mono:∀ a0 a1 k,LeO (r18_Angle.f k a0 a1) (r18_Angle.f (k+1) a0 a1):=by
 intro a0 a1 k;obtain ⟨ih0,ih1,ih2,ih3⟩:=r18_Angle.mono_l k
 unfold r18_Angle.f
 repeat' first
   | (with_reducible exact ih0 _ _ _ _ _ _)
   | (with_reducible exact ih1 _ _ _ _ _)
   | (with_reducible exact ih2 _ _ _)
   | (with_reducible exact ih3 _ _ _ _)
   | (with_reducible exact r01_Div.mono _ _ _)
   | (with_reducible exact r18_eighth.mono _ _)
   | (with_reducible exact LeO.refl _)
   | (with_reducible exact LeO.none _)
   | (with_reducible refine LeO.ite ?_ ?_)
   | (with_reducible refine LeO.bind ?_ (fun _=>?_))
set_option maxHeartbeats 8000000 in
set_option maxRecDepth 100000 in
theorem r18_Angle.calls (k:Nat) (a0:Int) (a1:Int) (r:Int) (w:World) (h:r18_Angle.f k a0 a1=some r) :
  Calls Try.prog 52 #[.int .i64 a0,.int .i64 a1] w fun e w'=>e = .returned (.int .i64 r)∧Drawn0 w w':=by
 have H:((r18_abs.f a0).bind fun t429=>((r18_abs.f a1).bind fun t430=>(if t429≥t430 then (r18_Angle.j0 k a0 a1 t429 t430 0 (decide (t429>0))) else (r18_Angle.j0 k a0 a1 t429 t430 0 false))))=some r:=h
 clear h;replace H:=Option.bind_eq_some_iff.mp H;obtain ⟨t429,A30,H⟩:=H
 replace H:((r18_abs.f a1).bind fun t430=>(if t429≥t430 then (r18_Angle.j0 k a0 a1 t429 t430 0 (decide (t429>0))) else (r18_Angle.j0 k a0 a1 t429 t430 0 false)))=some r:=H
 have A3:=Aside0.mk A30;clear A30;replace H:=Option.bind_eq_some_iff.mp H;obtain ⟨t430,A40,H⟩:=H
 replace H:(if t429≥t430 then (r18_Angle.j0 k a0 a1 t429 t430 0 (decide (t429>0))) else (r18_Angle.j0 k a0 a1 t429 t430 0 false))=some r:=H
 have A4:=Aside0.mk A40;clear A40;have HC5:=Aside0.mk H;clear H
 go_enter Try.func52,Try.ntmps52
 go_upto_region 2 with (first|((with_reducible refine gate_callee (f:=53) rfl ?_);refine goesL_ (some 9) rfl rfl Try.func53 (by kernel_rfl) rfl #[.int .i64 a0] rfl (by (try simp only [mA_,mC_,mN_]);first|done|rfl|(simp only [dL_,kL_];rfl)) ?_;(with_reducible refine (r18_abs.calls a0 t429 _ A3.out).mono ?_);rintro e w' ⟨rfl,⟨nd,rfl⟩⟩;refine ⟨_,rfl,?_⟩)|((with_reducible refine gate_callee (f:=53) rfl ?_);refine goesL_ (some 11) rfl rfl Try.func53 (by kernel_rfl) rfl #[.int .i64 a1] rfl (by (try simp only [mA_,mC_,mN_]);first|done|rfl|(simp only [dL_,kL_];rfl)) ?_;(with_reducible refine (r18_abs.calls a1 t430 _ A4.out).mono ?_);rintro e w' ⟨rfl,⟨nd,rfl⟩⟩;refine ⟨_,rfl,?_⟩))
 (try simp only [Act.put,tS_,tZ_,tC_])
 go_cut [18] (fun v18 wc=>∃ (kq:Nat) (x18_4:Bool),v18 = .bool x18_4∧Aside0 (r18_Angle.j0 kq a0 a1 t429 t430 0 x18_4=some r)∧Aside0 (kq≤k)∧Drawn0 w wc)
 case first =>
  have H:=HC5.out;clear HC5;by_cases c6:t429≥t430
  ·rw [if_pos c6] at H
   have c6b0:=decide_eq_true c6;clear c6
   (first|rw [c6b0]|(simp only [i64_w,i32_w];rw [c6b0])|skip)
   have H':=Aside0.mk H;clear H
   go_wp2
   go_meet
   case rel=>exact ⟨_,(decide (t429>0)),(by first|rfl|(simp;done)|(simp [*];done)),H',⟨by first|omega|exact Nat.le_refl _⟩,by repeat (first|exact Drawn0.refl _|apply Drawn0.step)⟩
  rw [if_neg c6] at H;have c6b0:=decide_eq_false c6;clear c6
  (first|rw [c6b0]|(simp only [i64_w,i32_w];rw [c6b0])|skip)
  have H':=Aside0.mk H;clear H
  go_wp2
  go_meet
  case rel=>exact ⟨_,(false),(by first|rfl|(simp;done)|(simp [*];done)),H',⟨by first|omega|exact Nat.le_refl _⟩,by repeat (first|exact Drawn0.refl _|apply Drawn0.step)⟩
 case rest =>
  clear HC5;obtain ⟨kq,x18_4,rfl,HA,HJ4,⟨mc4,rfl⟩⟩:=hcut
  cases kq with
  | zero=>exact absurd HA.out (by simp [r18_Angle.j0])
  | succ kj4 =>
   have H:=HA.out;clear HA;simp only [r18_Angle.j0] at H;have HC7:=Aside0.mk H;clear H
   go_upto_if 18 with (fail)
   go_cut [7] (fun v7 wc=>∃ (kq:Nat) (x7_6:Int),v7 = .int .i64 x7_6∧Aside0 (r18_Angle.j1 kq a0 a1 t429 t430 x7_6=some r)∧Aside0 (kq≤kj4)∧Drawn0 w wc)
   case first =>
    have H:=HC7.out;clear HC7;by_cases c8:x18_4=true
    ·subst c8
     have H1:((r01_Div.f kj4 (wrap64 (t430*65536)) t429).bind fun t431=>((r18_eighth.f kj4 t431).bind fun t432=>(r18_Angle.j1 kj4 a0 a1 t429 t430 t432)))=some r:=by rw [if_pos rfl] at H;exact H
     clear H;have H:=H1;clear H1;replace H:=Option.bind_eq_some_iff.mp H;obtain ⟨t431,A90,H⟩:=H
     replace H:((r18_eighth.f kj4 t431).bind fun t432=>(r18_Angle.j1 kj4 a0 a1 t429 t430 t432))=some r:=H
     have A9:=Aside0.mk A90;clear A90;replace H:=Option.bind_eq_some_iff.mp H;obtain ⟨t432,A100,H⟩:=H;replace H:(r18_Angle.j1 kj4 a0 a1 t429 t430 t432)=some r:=H;have A10:=Aside0.mk A100;clear A100;have H':=Aside0.mk H;clear H
     go_wp2_with (first|((with_reducible refine gate_callee (f:=34) rfl ?_);refine goesL_ (some 22) rfl rfl Try.func34 (by kernel_rfl) rfl #[.int .i64 (wrap64 (t430*65536)),.int .i64 t429] rfl (by (try simp only [mA_,mC_,mN_]);first|done|rfl|(simp only [dL_,kL_];rfl)) ?_;(with_reducible refine (r01_Div.calls kj4 (wrap64 (t430*65536)) t429 t431 _ A9.out).mono ?_);rintro e w' ⟨rfl,⟨nd,rfl⟩⟩;refine ⟨_,rfl,?_⟩)|((with_reducible refine gate_callee (f:=63) rfl ?_);refine goesL_ (some 23) rfl rfl Try.func63 (by kernel_rfl) rfl #[.int .i64 t431] rfl (by (try simp only [mA_,mC_,mN_]);first|done|rfl|(simp only [dL_,kL_];rfl)) ?_;(with_reducible refine (r18_eighth.calls kj4 t431 t432 _ A10.out).mono ?_);rintro e w' ⟨rfl,⟨nd,rfl⟩⟩;refine ⟨_,rfl,?_⟩))
     go_meet
     case rel=>exact ⟨_,(t432),(by first|rfl|(simp;done)|(simp [*];done)),H',⟨by have:=HJ4.out;first|omega|exact Nat.le_refl _⟩,by repeat (first|exact Drawn0.refl _|apply Drawn0.step)⟩
    replace c8:=Bool.eq_false_iff.mpr c8;subst c8
    have H1:(r18_Angle.j1 kj4 a0 a1 t429 t430 0)=some r:=by rw [if_neg (show ¬ (false=true) by decide)] at H;exact H
    clear H;have H:=H1;clear H1;have H':=Aside0.mk H;clear H
    go_wp2
    go_meet
    case rel=>exact ⟨_,(0),(by first|rfl|(simp;done)|(simp [*];done)),H',⟨by have:=HJ4.out;first|omega|exact Nat.le_refl _⟩,by repeat (first|exact Drawn0.refl _|apply Drawn0.step)⟩
   case rest =>
    clear HC7;obtain ⟨kq,x7_6,rfl,HA,HJ6,⟨mc6,rfl⟩⟩:=hcut
    cases kq with
    | zero=>exact absurd HA.out (by simp [r18_Angle.j1])
    | succ kj6 =>
     have H:=HA.out;clear HA;simp only [r18_Angle.j1] at H;have HC11:=Aside0.mk H;clear H
     go_upto_if 26 with (fail)
     go_cut [7] (fun v7 wc=>∃ (kq:Nat) (x7_10:Int),v7 = .int .i64 x7_10∧Aside0 (r18_Angle.j2 kq a0 a1 x7_10=some r)∧Aside0 (kq≤kj6)∧Drawn0 w wc)
     case first =>
      have H:=HC11.out;clear HC11;by_cases c12:t429<t430
      ·rw [if_pos c12] at H
       have c12b0:=decide_eq_true c12;clear c12
       (first|rw [c12b0]|(simp only [i64_w,i32_w];rw [c12b0])|skip)
       replace H:=Option.bind_eq_some_iff.mp H;obtain ⟨t433,A130,H⟩:=H
       replace H:((r18_eighth.f kj6 t433).bind fun t434=>(r18_Angle.j2 kj6 a0 a1 (wrap64 (16384-t434))))=some r:=H
       have A13:=Aside0.mk A130;clear A130;replace H:=Option.bind_eq_some_iff.mp H;obtain ⟨t434,A140,H⟩:=H;replace H:(r18_Angle.j2 kj6 a0 a1 (wrap64 (16384-t434)))=some r:=H;have A14:=Aside0.mk A140;clear A140;have H':=Aside0.mk H;clear H
       go_wp2_with (first|((with_reducible refine gate_callee (f:=34) rfl ?_);refine goesL_ (some 30) rfl rfl Try.func34 (by kernel_rfl) rfl #[.int .i64 (wrap64 (t429*65536)),.int .i64 t430] rfl (by (try simp only [mA_,mC_,mN_]);first|done|rfl|(simp only [dL_,kL_];rfl)) ?_;(with_reducible refine (r01_Div.calls kj6 (wrap64 (t429*65536)) t430 t433 _ A13.out).mono ?_);rintro e w' ⟨rfl,⟨nd,rfl⟩⟩;refine ⟨_,rfl,?_⟩)|((with_reducible refine gate_callee (f:=63) rfl ?_);refine goesL_ (some 31) rfl rfl Try.func63 (by kernel_rfl) rfl #[.int .i64 t433] rfl (by (try simp only [mA_,mC_,mN_]);first|done|rfl|(simp only [dL_,kL_];rfl)) ?_;(with_reducible refine (r18_eighth.calls kj6 t433 t434 _ A14.out).mono ?_);rintro e w' ⟨rfl,⟨nd,rfl⟩⟩;refine ⟨_,rfl,?_⟩))
       go_meet
       case rel=>exact ⟨_,(wrap64 (16384-t434)),(by first|rfl|(simp;done)|(simp [*];done)),H',⟨by have:=HJ4.out;have:=HJ6.out;first|omega|exact Nat.le_refl _⟩,by repeat (first|exact Drawn0.refl _|apply Drawn0.step)⟩
      rw [if_neg c12] at H;have c12b0:=decide_eq_false c12;clear c12
      (first|rw [c12b0]|(simp only [i64_w,i32_w];rw [c12b0])|skip)
      have H':=Aside0.mk H;clear H
      go_wp2
      go_meet
      case rel=>exact ⟨_,(x7_6),(by first|rfl|(simp;done)|(simp [*];done)),H',⟨by have:=HJ4.out;have:=HJ6.out;first|omega|exact Nat.le_refl _⟩,by repeat (first|exact Drawn0.refl _|apply Drawn0.step)⟩
     case rest =>
      clear HC11;obtain ⟨kq,x7_10,rfl,HA,HJ10,⟨mc10,rfl⟩⟩:=hcut
      cases kq with
      | zero=>exact absurd HA.out (by simp [r18_Angle.j2])
      | succ kj10 =>
       have H:=HA.out;clear HA;simp only [r18_Angle.j2] at H;have HC15:=Aside0.mk H;clear H
       go_upto_region 6 with (fail)
       go_cut [38] (fun v38 wc=>∃ (kq:Nat) (x38_14:Bool),v38 = .bool x38_14∧Aside0 (r18_Angle.j3 kq a0 a1 x7_10 x38_14=some r)∧Aside0 (kq≤kj10)∧Drawn0 w wc)
       case first =>
        have H:=HC15.out;clear HC15;by_cases c16:a0<0
        ·rw [if_pos c16] at H
         have c16b0:=decide_eq_true c16;clear c16
         (first|rw [c16b0]|(simp only [i64_w,i32_w];rw [c16b0])|skip)
         have H':=Aside0.mk H;clear H
         go_wp2
         go_meet
         case rel=>exact ⟨_,(decide (a1<0)),(by first|rfl|(simp;done)|(simp [*];done)),H',⟨by have:=HJ4.out;have:=HJ6.out;have:=HJ10.out;first|omega|exact Nat.le_refl _⟩,by repeat (first|exact Drawn0.refl _|apply Drawn0.step)⟩
        rw [if_neg c16] at H;have c16b0:=decide_eq_false c16;clear c16
        (first|rw [c16b0]|(simp only [i64_w,i32_w];rw [c16b0])|skip)
        have H':=Aside0.mk H;clear H
        go_wp2
        go_meet
        case rel=>exact ⟨_,(false),(by first|rfl|(simp;done)|(simp [*];done)),H',⟨by have:=HJ4.out;have:=HJ6.out;have:=HJ10.out;first|omega|exact Nat.le_refl _⟩,by repeat (first|exact Drawn0.refl _|apply Drawn0.step)⟩
       case rest =>
        clear HC15;obtain ⟨kq,x38_14,rfl,HA,HJ14,⟨mc14,rfl⟩⟩:=hcut
        cases kq with
        | zero=>exact absurd HA.out (by simp [r18_Angle.j3])
        | succ kj14 =>
         have H:=HA.out;clear HA;simp only [r18_Angle.j3] at H;by_cases c17:x38_14=true
         ·subst c17
          have H1:(some (wrap64 (32768+x7_10)))=some r:=by rw [if_pos rfl] at H;exact H
          clear H;have H:=H1;clear H1;obtain rfl:=Option.some.inj H
          go_wp2
          go_ret
          exact ⟨by first|rfl|(simp;done)|(simp [*];done),by repeat (first|exact Drawn0.refl _|apply Drawn0.step)⟩
         replace c17:=Bool.eq_false_iff.mpr c17;subst c17
         have H1:(if a0<0 then (some (wrap64 (32768-x7_10))) else (if a1<0 then (some (Int.tmod (wrap64 (65536-x7_10)) 65536)) else (some x7_10)))=some r:=by rw [if_neg (show ¬ (false=true) by decide)] at H;exact H
         clear H;have H:=H1;clear H1;by_cases c18:a0<0
         ·rw [if_pos c18] at H
          have c18b0:=decide_eq_true c18;clear c18;obtain rfl:=Option.some.inj H
          go_wp2
          go_ret
          exact ⟨by first|rfl|(simp;done)|(simp [*];done),by repeat (first|exact Drawn0.refl _|apply Drawn0.step)⟩
         rw [if_neg c18] at H;have c18b0:=decide_eq_false c18;clear c18;by_cases c19:a1<0
         ·rw [if_pos c19] at H
          have c19b0:=decide_eq_true c19;clear c19;obtain rfl:=Option.some.inj H
          go_wp2
          go_ret
          exact ⟨by first|rfl|(simp;done)|(simp [*];done),by repeat (first|exact Drawn0.refl _|apply Drawn0.step)⟩
         rw [if_neg c19] at H;have c19b0:=decide_eq_false c19;clear c19;obtain rfl:=Option.some.inj H
         go_wp2
         go_ret
         exact ⟨by first|rfl|(simp;done)|(simp [*];done),by repeat (first|exact Drawn0.refl _|apply Drawn0.step)⟩

/-! ### r18_plain: function 35 -/
def r18_plain.f (k:Nat) (a0:Int) (l1:List Int) (a2:Int) (a3:Int):Option (Int):=if 0<(l1.length:Int) then (if 1<(l1.length:Int) then (if a0=1 then (if 2<(l1.length:Int) then (if 3<(l1.length:Int) then ((r01_Div.f k (wrap64 (65535*(wrap64 ((wrap64 ((wrap64 ((wrap64 ((wrap64 (16*a2))+8))-(rd l1 0)))*(wrap64 ((rd l1 2)-(rd l1 0)))))+(wrap64 ((wrap64 ((wrap64 ((wrap64 (16*a3))+8))-(rd l1 1)))*(wrap64 ((rd l1 3)-(rd l1 1))))))))) (wrap64 ((wrap64 ((wrap64 ((rd l1 2)-(rd l1 0)))*(wrap64 ((rd l1 2)-(rd l1 0)))))+(wrap64 ((wrap64 ((rd l1 3)-(rd l1 1)))*(wrap64 ((rd l1 3)-(rd l1 1)))))))).bind fun t441=>(some t441)) else (none)) else (none)) else (if a0=2 then (if 2<(l1.length:Int) then (if (rd l1 2)=0 then (some 65535) else ((r01_Hypot.f k (wrap64 (16*(wrap64 ((wrap64 ((wrap64 (16*a2))+8))-(rd l1 0))))) (wrap64 (16*(wrap64 ((wrap64 ((wrap64 (16*a3))+8))-(rd l1 1)))))).bind fun t443=>((r01_Div.f k (wrap64 (65535*t443)) (wrap64 (16*(rd l1 2)))).bind fun t445=>(some t445)))) else (none)) else (if a0=3 then ((r18_Angle.f k (wrap64 ((wrap64 ((wrap64 (16*a2))+8))-(rd l1 0))) (wrap64 ((wrap64 ((wrap64 (16*a3))+8))-(rd l1 1)))).bind fun t446=>(if 2<(l1.length:Int) then ((r18_mod.f k (wrap64 (t446-(rd l1 2))) 65536).bind fun t448=>(some t448)) else (none))) else (if 2<(l1.length:Int) then (if (rd l1 2)=0 then (some 65535) else ((r18_abs.f (wrap64 ((wrap64 ((wrap64 (16*a2))+8))-(rd l1 0)))).bind fun t450=>((r18_abs.f (wrap64 ((wrap64 ((wrap64 (16*a3))+8))-(rd l1 1)))).bind fun t451=>((r01_Div.f k (wrap64 (65535*(wrap64 (t450+t451)))) (rd l1 2)).bind fun t453=>(some t453))))) else (none))))) else (none)) else (none)
theorem r18_plain.mono:∀ a0 a1 a2 a3 k,LeO (r18_plain.f k a0 a1 a2 a3) (r18_plain.f (k+1) a0 a1 a2 a3):=by
 intro a0 a1 a2 a3 k
 unfold r18_plain.f
 repeat' first
   | (with_reducible exact r01_Div.mono _ _ _)
   | (with_reducible exact r01_Hypot.mono _ _ _)
   | (with_reducible exact r18_Angle.mono _ _ _)
   | (with_reducible exact r18_mod.mono _ _ _)
   | (with_reducible exact LeO.refl _)
   | (with_reducible exact LeO.none _)
   | (with_reducible refine LeO.ite ?_ ?_)
   | (with_reducible refine LeO.bind ?_ (fun _=>?_))
set_option maxHeartbeats 8000000 in
set_option maxRecDepth 100000 in
theorem r18_plain.calls (k:Nat) (a0:Int) (A1:Option Addr) (c1:Nat) (l1:List Int) (a2:Int) (a3:Int) (r:Int) (w:World) (hr1:Kd.C (Kd.int .i64) w A1 l1.length l1) (hc1:l1.length≤c1) (h:r18_plain.f k a0 l1 a2 a3=some r) :
  Calls Try.prog 35 #[.int .i64 a0,.slice A1 l1.length c1,.int .i64 a2,.int .i64 a3] w fun e w'=>e = .returned (.int .i64 r)∧Drawn0 w w':=by
 have HR1:=Aside0.mk hr1;have HC1:=Aside0.mk hc1;clear hr1 hc1
 have H:(if 0<(l1.length:Int) then (if 1<(l1.length:Int) then (if a0=1 then (if 2<(l1.length:Int) then (if 3<(l1.length:Int) then ((r01_Div.f k (wrap64 (65535*(wrap64 ((wrap64 ((wrap64 ((wrap64 ((wrap64 (16*a2))+8))-(rd l1 0)))*(wrap64 ((rd l1 2)-(rd l1 0)))))+(wrap64 ((wrap64 ((wrap64 ((wrap64 (16*a3))+8))-(rd l1 1)))*(wrap64 ((rd l1 3)-(rd l1 1))))))))) (wrap64 ((wrap64 ((wrap64 ((rd l1 2)-(rd l1 0)))*(wrap64 ((rd l1 2)-(rd l1 0)))))+(wrap64 ((wrap64 ((rd l1 3)-(rd l1 1)))*(wrap64 ((rd l1 3)-(rd l1 1)))))))).bind fun t441=>(some t441)) else (none)) else (none)) else (if a0=2 then (if 2<(l1.length:Int) then (if (rd l1 2)=0 then (some 65535) else ((r01_Hypot.f k (wrap64 (16*(wrap64 ((wrap64 ((wrap64 (16*a2))+8))-(rd l1 0))))) (wrap64 (16*(wrap64 ((wrap64 ((wrap64 (16*a3))+8))-(rd l1 1)))))).bind fun t443=>((r01_Div.f k (wrap64 (65535*t443)) (wrap64 (16*(rd l1 2)))).bind fun t445=>(some t445)))) else (none)) else (if a0=3 then ((r18_Angle.f k (wrap64 ((wrap64 ((wrap64 (16*a2))+8))-(rd l1 0))) (wrap64 ((wrap64 ((wrap64 (16*a3))+8))-(rd l1 1)))).bind fun t446=>(if 2<(l1.length:Int) then ((r18_mod.f k (wrap64 (t446-(rd l1 2))) 65536).bind fun t448=>(some t448)) else (none))) else (if 2<(l1.length:Int) then (if (rd l1 2)=0 then (some 65535) else ((r18_abs.f (wrap64 ((wrap64 ((wrap64 (16*a2))+8))-(rd l1 0)))).bind fun t450=>((r18_abs.f (wrap64 ((wrap64 ((wrap64 (16*a3))+8))-(rd l1 1)))).bind fun t451=>((r01_Div.f k (wrap64 (65535*(wrap64 (t450+t451)))) (rd l1 2)).bind fun t453=>(some t453))))) else (none))))) else (none)) else (none))=some r:=h
 clear h;by_cases c5:0<(l1.length:Int)
 ·rw [if_pos c5] at H
  have c5b0:=decide_eq_true c5
  have c5b1:decide (0<l1.length)=true:=decide_eq_true (by omega)
  clear c5;by_cases c6:1<(l1.length:Int)
  ·rw [if_pos c6] at H
   have c6b0:=decide_eq_true c6
   have c6b1:decide (1<l1.length)=true:=decide_eq_true (by omega)
   clear c6;by_cases c7:a0=1
   ·rw [if_pos c7] at H
    have c7b0:=beq_iff_eq.mpr c7;have c7b1:=bne_eq_false_iff_eq.mpr c7;clear c7;by_cases c8:2<(l1.length:Int)
    ·rw [if_pos c8] at H
     have c8b0:=decide_eq_true c8
     have c8b1:decide (2<l1.length)=true:=decide_eq_true (by omega)
     clear c8;by_cases c9:3<(l1.length:Int)
     ·rw [if_pos c9] at H
      have c9b0:=decide_eq_true c9
      have c9b1:decide (3<l1.length)=true:=decide_eq_true (by omega)
      clear c9;replace H:=Option.bind_eq_some_iff.mp H;obtain ⟨t441,A100,H⟩:=H;replace H:(some t441)=some r:=H;have A10:=Aside0.mk A100;clear A100;obtain rfl:=Option.some.inj H
      have p435:0≤(0:Int):=(by omega)
      have q435:0<(l1.length:Int):=of_decide_eq_true (by first|(with_reducible assumption)|assumption)
      obtain ⟨ad435,e435,hx435_0⟩:=Kd.at_int HR1.out 0 p435 q435;cases e435
      have qi435:(0<l1.length)=True:=eq_true (by omega)
      (try rw [show ((0:Int)).toNat=0 from rfl] at hx435_0)
      (try rw [Addr.add_zero'] at hx435_0)
      replace p435:=eq_true p435;replace q435:=eq_true q435
      have p436:0≤(1:Int):=(by omega)
      have q436:1<(l1.length:Int):=of_decide_eq_true (by first|(with_reducible assumption)|assumption)
      obtain ⟨ad436,e436,hx436_0⟩:=Kd.at_int HR1.out 1 p436 q436
      obtain rfl:ad435=ad436:=(by injection e436)
      (try simp only [show (1:Int).toNat=1 from rfl,Nat.reduceMul,Nat.reduceEqDiff,Go.Addr.add,↓reduceIte] at hx436_0)
      have qi436:(1<l1.length)=True:=eq_true (by omega)
      (try rw [show ((1:Int)).toNat=1 from rfl] at hx436_0)
      replace p436:=eq_true p436;replace q436:=eq_true q436
      have p437:0≤(2:Int):=(by omega)
      have q437:2<(l1.length:Int):=of_decide_eq_true (by first|(with_reducible assumption)|assumption)
      obtain ⟨ad437,e437,hx437_0⟩:=Kd.at_int HR1.out 2 p437 q437
      obtain rfl:ad435=ad437:=(by injection e437)
      (try simp only [show (2:Int).toNat=2 from rfl,Nat.reduceMul,Nat.reduceEqDiff,Go.Addr.add,↓reduceIte] at hx437_0)
      have qi437:(2<l1.length)=True:=eq_true (by omega)
      (try rw [show ((2:Int)).toNat=2 from rfl] at hx437_0)
      replace p437:=eq_true p437;replace q437:=eq_true q437
      have p438:0≤(0:Int):=(by omega)
      have q438:0<(l1.length:Int):=of_decide_eq_true (by first|(with_reducible assumption)|assumption)
      obtain ⟨ad438,e438,hx438_0⟩:=Kd.at_int HR1.out 0 p438 q438
      obtain rfl:ad435=ad438:=(by injection e438)
      have qi438:(0<l1.length)=True:=eq_true (by omega)
      (try rw [show ((0:Int)).toNat=0 from rfl] at hx438_0)
      (try rw [Addr.add_zero'] at hx438_0)
      replace p438:=eq_true p438;replace q438:=eq_true q438
      have p439:0≤(3:Int):=(by omega)
      have q439:3<(l1.length:Int):=of_decide_eq_true (by first|(with_reducible assumption)|assumption)
      obtain ⟨ad439,e439,hx439_0⟩:=Kd.at_int HR1.out 3 p439 q439
      obtain rfl:ad435=ad439:=(by injection e439)
      (try simp only [show (3:Int).toNat=3 from rfl,Nat.reduceMul,Nat.reduceEqDiff,Go.Addr.add,↓reduceIte] at hx439_0)
      have qi439:(3<l1.length)=True:=eq_true (by omega)
      (try rw [show ((3:Int)).toNat=3 from rfl] at hx439_0)
      replace p439:=eq_true p439;replace q439:=eq_true q439
      have p440:0≤(1:Int):=(by omega)
      have q440:1<(l1.length:Int):=of_decide_eq_true (by first|(with_reducible assumption)|assumption)
      obtain ⟨ad440,e440,hx440_0⟩:=Kd.at_int HR1.out 1 p440 q440
      obtain rfl:ad435=ad440:=(by injection e440)
      (try simp only [show (1:Int).toNat=1 from rfl,Nat.reduceMul,Nat.reduceEqDiff,Go.Addr.add,↓reduceIte] at hx440_0)
      have qi440:(1<l1.length)=True:=eq_true (by omega)
      (try rw [show ((1:Int)).toNat=1 from rfl] at hx440_0)
      replace p440:=eq_true p440;replace q440:=eq_true q440
      go_enter Try.func35,Try.ntmps35
      go_wp2_with (first|(go_at_call 34;(with_reducible refine (r01_Div.calls k (wrap64 (65535*(wrap64 ((wrap64 ((wrap64 ((wrap64 ((wrap64 (16*a2))+8))-(rd l1 0)))*(wrap64 ((rd l1 2)-(rd l1 0)))))+(wrap64 ((wrap64 ((wrap64 ((wrap64 (16*a3))+8))-(rd l1 1)))*(wrap64 ((rd l1 3)-(rd l1 1))))))))) (wrap64 ((wrap64 ((wrap64 ((rd l1 2)-(rd l1 0)))*(wrap64 ((rd l1 2)-(rd l1 0)))))+(wrap64 ((wrap64 ((rd l1 3)-(rd l1 1)))*(wrap64 ((rd l1 3)-(rd l1 1))))))) t441 _ A10.out).mono ?_);rintro e w' ⟨rfl,⟨nd,rfl⟩⟩;(try first|exact ⟨rfl,_,World.drewN_drewN _ _ _⟩|exact ⟨rfl,_,Eq.trans (World.drewN_drewN _ _ _) (congrArg (World.drewN _) (Nat.add_assoc _ _ _))⟩)))
      repeat (go_quiet (first|(go_at_call 34;(with_reducible refine (r01_Div.calls k (wrap64 (65535*(wrap64 ((wrap64 ((wrap64 ((wrap64 ((wrap64 (16*a2))+8))-(rd l1 0)))*(wrap64 ((rd l1 2)-(rd l1 0)))))+(wrap64 ((wrap64 ((wrap64 ((wrap64 (16*a3))+8))-(rd l1 1)))*(wrap64 ((rd l1 3)-(rd l1 1))))))))) (wrap64 ((wrap64 ((wrap64 ((rd l1 2)-(rd l1 0)))*(wrap64 ((rd l1 2)-(rd l1 0)))))+(wrap64 ((wrap64 ((rd l1 3)-(rd l1 1)))*(wrap64 ((rd l1 3)-(rd l1 1))))))) t441 _ A10.out).mono ?_);rintro e w' ⟨rfl,⟨nd,rfl⟩⟩;(try first|exact ⟨rfl,_,World.drewN_drewN _ _ _⟩|exact ⟨rfl,_,Eq.trans (World.drewN_drewN _ _ _) (congrArg (World.drewN _) (Nat.add_assoc _ _ _))⟩)));try go_wp2_with (first|(go_at_call 34;(with_reducible refine (r01_Div.calls k (wrap64 (65535*(wrap64 ((wrap64 ((wrap64 ((wrap64 ((wrap64 (16*a2))+8))-(rd l1 0)))*(wrap64 ((rd l1 2)-(rd l1 0)))))+(wrap64 ((wrap64 ((wrap64 ((wrap64 (16*a3))+8))-(rd l1 1)))*(wrap64 ((rd l1 3)-(rd l1 1))))))))) (wrap64 ((wrap64 ((wrap64 ((rd l1 2)-(rd l1 0)))*(wrap64 ((rd l1 2)-(rd l1 0)))))+(wrap64 ((wrap64 ((rd l1 3)-(rd l1 1)))*(wrap64 ((rd l1 3)-(rd l1 1))))))) t441 _ A10.out).mono ?_);rintro e w' ⟨rfl,⟨nd,rfl⟩⟩;(try first|exact ⟨rfl,_,World.drewN_drewN _ _ _⟩|exact ⟨rfl,_,Eq.trans (World.drewN_drewN _ _ _) (congrArg (World.drewN _) (Nat.add_assoc _ _ _))⟩))))
      go_ret
      exact ⟨by first|rfl|(simp;done)|(simp [*];done),by repeat (first|exact Drawn0.refl _|apply Drawn0.step)⟩
     rw [if_neg c9] at H
     exact absurd H (by simp)
    rw [if_neg c8] at H
    exact absurd H (by simp)
   rw [if_neg c7] at H;have c7b0:(a0==1)=false:=beq_eq_false_iff_ne.mpr c7;have c7b1:(a0 != 1)=true:=bne_iff_ne.mpr c7;by_cases c11:a0=2
   ·rw [if_pos c11] at H
    have c11b0:=beq_iff_eq.mpr c11;have c11b1:=bne_eq_false_iff_eq.mpr c11;clear c11;by_cases c12:2<(l1.length:Int)
    ·rw [if_pos c12] at H
     have c12b0:=decide_eq_true c12
     have c12b1:decide (2<l1.length)=true:=decide_eq_true (by omega)
     clear c12;by_cases c13:(rd l1 2)=0
     ·rw [if_pos c13] at H
      have c13b0:=beq_iff_eq.mpr c13;have c13b1:=bne_eq_false_iff_eq.mpr c13;clear c13;obtain rfl:=Option.some.inj H
      have p435:0≤(0:Int):=(by omega)
      have q435:0<(l1.length:Int):=of_decide_eq_true (by first|(with_reducible assumption)|assumption)
      obtain ⟨ad435,e435,hx435_0⟩:=Kd.at_int HR1.out 0 p435 q435;cases e435
      have qi435:(0<l1.length)=True:=eq_true (by omega)
      (try rw [show ((0:Int)).toNat=0 from rfl] at hx435_0)
      (try rw [Addr.add_zero'] at hx435_0)
      replace p435:=eq_true p435;replace q435:=eq_true q435
      have p436:0≤(1:Int):=(by omega)
      have q436:1<(l1.length:Int):=of_decide_eq_true (by first|(with_reducible assumption)|assumption)
      obtain ⟨ad436,e436,hx436_0⟩:=Kd.at_int HR1.out 1 p436 q436
      obtain rfl:ad435=ad436:=(by injection e436)
      (try simp only [show (1:Int).toNat=1 from rfl,Nat.reduceMul,Nat.reduceEqDiff,Go.Addr.add,↓reduceIte] at hx436_0)
      have qi436:(1<l1.length)=True:=eq_true (by omega)
      (try rw [show ((1:Int)).toNat=1 from rfl] at hx436_0)
      replace p436:=eq_true p436;replace q436:=eq_true q436
      have p442:0≤(2:Int):=(by omega)
      have q442:2<(l1.length:Int):=of_decide_eq_true (by first|(with_reducible assumption)|assumption)
      obtain ⟨ad442,e442,hx442_0⟩:=Kd.at_int HR1.out 2 p442 q442
      obtain rfl:ad435=ad442:=(by injection e442)
      (try simp only [show (2:Int).toNat=2 from rfl,Nat.reduceMul,Nat.reduceEqDiff,Go.Addr.add,↓reduceIte] at hx442_0)
      have qi442:(2<l1.length)=True:=eq_true (by omega)
      (try rw [show ((2:Int)).toNat=2 from rfl] at hx442_0)
      replace p442:=eq_true p442;replace q442:=eq_true q442
      go_enter Try.func35,Try.ntmps35
      go_wp2
      repeat (go_quiet (fail);try go_wp2)
      go_ret
      exact ⟨by first|rfl|(simp;done)|(simp [*];done),by repeat (first|exact Drawn0.refl _|apply Drawn0.step)⟩
     rw [if_neg c13] at H;have c13b0:((rd l1 2)==0)=false:=beq_eq_false_iff_ne.mpr c13;have c13b1:((rd l1 2) != 0)=true:=bne_iff_ne.mpr c13;replace H:=Option.bind_eq_some_iff.mp H;obtain ⟨t443,A140,H⟩:=H
     replace H:((r01_Div.f k (wrap64 (65535*t443)) (wrap64 (16*(rd l1 2)))).bind fun t445=>(some t445))=some r:=H
     have A14:=Aside0.mk A140;clear A140;replace H:=Option.bind_eq_some_iff.mp H;obtain ⟨t445,A150,H⟩:=H;replace H:(some t445)=some r:=H;have A15:=Aside0.mk A150;clear A150;obtain rfl:=Option.some.inj H
     have p435:0≤(0:Int):=(by omega)
     have q435:0<(l1.length:Int):=of_decide_eq_true (by first|(with_reducible assumption)|assumption)
     obtain ⟨ad435,e435,hx435_0⟩:=Kd.at_int HR1.out 0 p435 q435;cases e435
     have qi435:(0<l1.length)=True:=eq_true (by omega)
     (try rw [show ((0:Int)).toNat=0 from rfl] at hx435_0)
     (try rw [Addr.add_zero'] at hx435_0)
     replace p435:=eq_true p435;replace q435:=eq_true q435
     have p436:0≤(1:Int):=(by omega)
     have q436:1<(l1.length:Int):=of_decide_eq_true (by first|(with_reducible assumption)|assumption)
     obtain ⟨ad436,e436,hx436_0⟩:=Kd.at_int HR1.out 1 p436 q436
     obtain rfl:ad435=ad436:=(by injection e436)
     (try simp only [show (1:Int).toNat=1 from rfl,Nat.reduceMul,Nat.reduceEqDiff,Go.Addr.add,↓reduceIte] at hx436_0)
     have qi436:(1<l1.length)=True:=eq_true (by omega)
     (try rw [show ((1:Int)).toNat=1 from rfl] at hx436_0)
     replace p436:=eq_true p436;replace q436:=eq_true q436
     have p442:0≤(2:Int):=(by omega)
     have q442:2<(l1.length:Int):=of_decide_eq_true (by first|(with_reducible assumption)|assumption)
     obtain ⟨ad442,e442,hx442_0⟩:=Kd.at_int HR1.out 2 p442 q442
     obtain rfl:ad435=ad442:=(by injection e442)
     (try simp only [show (2:Int).toNat=2 from rfl,Nat.reduceMul,Nat.reduceEqDiff,Go.Addr.add,↓reduceIte] at hx442_0)
     have qi442:(2<l1.length)=True:=eq_true (by omega)
     (try rw [show ((2:Int)).toNat=2 from rfl] at hx442_0)
     replace p442:=eq_true p442;replace q442:=eq_true q442
     have p444:0≤(2:Int):=(by omega);have q444:2<(l1.length:Int):=of_decide_eq_true (by first|(with_reducible assumption)|assumption);obtain ⟨ad444,e444,hx444_0⟩:=Kd.at_int HR1.out 2 p444 q444;obtain rfl:ad435=ad444:=(by injection e444);(try simp only [show (2:Int).toNat=2 from rfl,Nat.reduceMul,Nat.reduceEqDiff,Go.Addr.add,↓reduceIte] at hx444_0);have qi444:(2<l1.length)=True:=eq_true (by omega);(try rw [show ((2:Int)).toNat=2 from rfl] at hx444_0);replace p444:=eq_true p444;replace q444:=eq_true q444
     go_enter Try.func35,Try.ntmps35
     go_wp2_with (first|(go_at_call 51;(with_reducible refine (r01_Hypot.calls k (wrap64 (16*(wrap64 ((wrap64 ((wrap64 (16*a2))+8))-(rd l1 0))))) (wrap64 (16*(wrap64 ((wrap64 ((wrap64 (16*a3))+8))-(rd l1 1))))) t443 _ A14.out).mono ?_);rintro e w' ⟨rfl,⟨nd,rfl⟩⟩;(try first|exact ⟨rfl,_,World.drewN_drewN _ _ _⟩|exact ⟨rfl,_,Eq.trans (World.drewN_drewN _ _ _) (congrArg (World.drewN _) (Nat.add_assoc _ _ _))⟩))|(go_at_call 34;(with_reducible refine (r01_Div.calls k (wrap64 (65535*t443)) (wrap64 (16*(rd l1 2))) t445 _ A15.out).mono ?_);rintro e w' ⟨rfl,⟨nd,rfl⟩⟩;(try first|exact ⟨rfl,_,World.drewN_drewN _ _ _⟩|exact ⟨rfl,_,Eq.trans (World.drewN_drewN _ _ _) (congrArg (World.drewN _) (Nat.add_assoc _ _ _))⟩)))
     repeat (go_quiet (first|(go_at_call 51;(with_reducible refine (r01_Hypot.calls k (wrap64 (16*(wrap64 ((wrap64 ((wrap64 (16*a2))+8))-(rd l1 0))))) (wrap64 (16*(wrap64 ((wrap64 ((wrap64 (16*a3))+8))-(rd l1 1))))) t443 _ A14.out).mono ?_);rintro e w' ⟨rfl,⟨nd,rfl⟩⟩;(try first|exact ⟨rfl,_,World.drewN_drewN _ _ _⟩|exact ⟨rfl,_,Eq.trans (World.drewN_drewN _ _ _) (congrArg (World.drewN _) (Nat.add_assoc _ _ _))⟩))|(go_at_call 34;(with_reducible refine (r01_Div.calls k (wrap64 (65535*t443)) (wrap64 (16*(rd l1 2))) t445 _ A15.out).mono ?_);rintro e w' ⟨rfl,⟨nd,rfl⟩⟩;(try first|exact ⟨rfl,_,World.drewN_drewN _ _ _⟩|exact ⟨rfl,_,Eq.trans (World.drewN_drewN _ _ _) (congrArg (World.drewN _) (Nat.add_assoc _ _ _))⟩)));try go_wp2_with (first|(go_at_call 51;(with_reducible refine (r01_Hypot.calls k (wrap64 (16*(wrap64 ((wrap64 ((wrap64 (16*a2))+8))-(rd l1 0))))) (wrap64 (16*(wrap64 ((wrap64 ((wrap64 (16*a3))+8))-(rd l1 1))))) t443 _ A14.out).mono ?_);rintro e w' ⟨rfl,⟨nd,rfl⟩⟩;(try first|exact ⟨rfl,_,World.drewN_drewN _ _ _⟩|exact ⟨rfl,_,Eq.trans (World.drewN_drewN _ _ _) (congrArg (World.drewN _) (Nat.add_assoc _ _ _))⟩))|(go_at_call 34;(with_reducible refine (r01_Div.calls k (wrap64 (65535*t443)) (wrap64 (16*(rd l1 2))) t445 _ A15.out).mono ?_);rintro e w' ⟨rfl,⟨nd,rfl⟩⟩;(try first|exact ⟨rfl,_,World.drewN_drewN _ _ _⟩|exact ⟨rfl,_,Eq.trans (World.drewN_drewN _ _ _) (congrArg (World.drewN _) (Nat.add_assoc _ _ _))⟩))))
     go_ret
     exact ⟨by first|rfl|(simp;done)|(simp [*];done),by repeat (first|exact Drawn0.refl _|apply Drawn0.step)⟩
    rw [if_neg c12] at H
    exact absurd H (by simp)
   rw [if_neg c11] at H;have c11b0:(a0==2)=false:=beq_eq_false_iff_ne.mpr c11;have c11b1:(a0 != 2)=true:=bne_iff_ne.mpr c11;by_cases c16:a0=3
   ·rw [if_pos c16] at H
    have c16b0:=beq_iff_eq.mpr c16;have c16b1:=bne_eq_false_iff_eq.mpr c16;clear c16;replace H:=Option.bind_eq_some_iff.mp H;obtain ⟨t446,A170,H⟩:=H
    replace H:(if 2<(l1.length:Int) then ((r18_mod.f k (wrap64 (t446-(rd l1 2))) 65536).bind fun t448=>(some t448)) else (none))=some r:=H
    have A17:=Aside0.mk A170;clear A170;by_cases c18:2<(l1.length:Int)
    ·rw [if_pos c18] at H
     have c18b0:=decide_eq_true c18
     have c18b1:decide (2<l1.length)=true:=decide_eq_true (by omega)
     clear c18;replace H:=Option.bind_eq_some_iff.mp H;obtain ⟨t448,A190,H⟩:=H;replace H:(some t448)=some r:=H;have A19:=Aside0.mk A190;clear A190;obtain rfl:=Option.some.inj H
     have p435:0≤(0:Int):=(by omega)
     have q435:0<(l1.length:Int):=of_decide_eq_true (by first|(with_reducible assumption)|assumption)
     obtain ⟨ad435,e435,hx435_0⟩:=Kd.at_int HR1.out 0 p435 q435;cases e435
     have qi435:(0<l1.length)=True:=eq_true (by omega)
     (try rw [show ((0:Int)).toNat=0 from rfl] at hx435_0)
     (try rw [Addr.add_zero'] at hx435_0)
     replace p435:=eq_true p435;replace q435:=eq_true q435
     have p436:0≤(1:Int):=(by omega)
     have q436:1<(l1.length:Int):=of_decide_eq_true (by first|(with_reducible assumption)|assumption)
     obtain ⟨ad436,e436,hx436_0⟩:=Kd.at_int HR1.out 1 p436 q436
     obtain rfl:ad435=ad436:=(by injection e436)
     (try simp only [show (1:Int).toNat=1 from rfl,Nat.reduceMul,Nat.reduceEqDiff,Go.Addr.add,↓reduceIte] at hx436_0)
     have qi436:(1<l1.length)=True:=eq_true (by omega)
     (try rw [show ((1:Int)).toNat=1 from rfl] at hx436_0)
     replace p436:=eq_true p436;replace q436:=eq_true q436
     have p447:0≤(2:Int):=(by omega);have q447:2<(l1.length:Int):=of_decide_eq_true (by first|(with_reducible assumption)|assumption);obtain ⟨ad447,e447,hx447_0⟩:=Kd.at_int HR1.out 2 p447 q447;obtain rfl:ad435=ad447:=(by injection e447);(try simp only [show (2:Int).toNat=2 from rfl,Nat.reduceMul,Nat.reduceEqDiff,Go.Addr.add,↓reduceIte] at hx447_0);have qi447:(2<l1.length)=True:=eq_true (by omega);(try rw [show ((2:Int)).toNat=2 from rfl] at hx447_0);replace p447:=eq_true p447;replace q447:=eq_true q447
     go_enter Try.func35,Try.ntmps35
     go_wp2_with (first|(go_at_call 52;(with_reducible refine (r18_Angle.calls k (wrap64 ((wrap64 ((wrap64 (16*a2))+8))-(rd l1 0))) (wrap64 ((wrap64 ((wrap64 (16*a3))+8))-(rd l1 1))) t446 _ A17.out).mono ?_);rintro e w' ⟨rfl,⟨nd,rfl⟩⟩;(try first|exact ⟨rfl,_,World.drewN_drewN _ _ _⟩|exact ⟨rfl,_,Eq.trans (World.drewN_drewN _ _ _) (congrArg (World.drewN _) (Nat.add_assoc _ _ _))⟩))|(go_at_call 37;(with_reducible refine (r18_mod.calls k (wrap64 (t446-(rd l1 2))) 65536 t448 _ A19.out).mono ?_);rintro e w' ⟨rfl,⟨nd,rfl⟩⟩;(try first|exact ⟨rfl,_,World.drewN_drewN _ _ _⟩|exact ⟨rfl,_,Eq.trans (World.drewN_drewN _ _ _) (congrArg (World.drewN _) (Nat.add_assoc _ _ _))⟩)))
     repeat (go_quiet (first|(go_at_call 52;(with_reducible refine (r18_Angle.calls k (wrap64 ((wrap64 ((wrap64 (16*a2))+8))-(rd l1 0))) (wrap64 ((wrap64 ((wrap64 (16*a3))+8))-(rd l1 1))) t446 _ A17.out).mono ?_);rintro e w' ⟨rfl,⟨nd,rfl⟩⟩;(try first|exact ⟨rfl,_,World.drewN_drewN _ _ _⟩|exact ⟨rfl,_,Eq.trans (World.drewN_drewN _ _ _) (congrArg (World.drewN _) (Nat.add_assoc _ _ _))⟩))|(go_at_call 37;(with_reducible refine (r18_mod.calls k (wrap64 (t446-(rd l1 2))) 65536 t448 _ A19.out).mono ?_);rintro e w' ⟨rfl,⟨nd,rfl⟩⟩;(try first|exact ⟨rfl,_,World.drewN_drewN _ _ _⟩|exact ⟨rfl,_,Eq.trans (World.drewN_drewN _ _ _) (congrArg (World.drewN _) (Nat.add_assoc _ _ _))⟩)));try go_wp2_with (first|(go_at_call 52;(with_reducible refine (r18_Angle.calls k (wrap64 ((wrap64 ((wrap64 (16*a2))+8))-(rd l1 0))) (wrap64 ((wrap64 ((wrap64 (16*a3))+8))-(rd l1 1))) t446 _ A17.out).mono ?_);rintro e w' ⟨rfl,⟨nd,rfl⟩⟩;(try first|exact ⟨rfl,_,World.drewN_drewN _ _ _⟩|exact ⟨rfl,_,Eq.trans (World.drewN_drewN _ _ _) (congrArg (World.drewN _) (Nat.add_assoc _ _ _))⟩))|(go_at_call 37;(with_reducible refine (r18_mod.calls k (wrap64 (t446-(rd l1 2))) 65536 t448 _ A19.out).mono ?_);rintro e w' ⟨rfl,⟨nd,rfl⟩⟩;(try first|exact ⟨rfl,_,World.drewN_drewN _ _ _⟩|exact ⟨rfl,_,Eq.trans (World.drewN_drewN _ _ _) (congrArg (World.drewN _) (Nat.add_assoc _ _ _))⟩))))
     go_ret
     exact ⟨by first|rfl|(simp;done)|(simp [*];done),by repeat (first|exact Drawn0.refl _|apply Drawn0.step)⟩
    rw [if_neg c18] at H
    exact absurd H (by simp)
   rw [if_neg c16] at H;have c16b0:(a0==3)=false:=beq_eq_false_iff_ne.mpr c16;have c16b1:(a0 != 3)=true:=bne_iff_ne.mpr c16;by_cases c20:2<(l1.length:Int)
   ·rw [if_pos c20] at H
    have c20b0:=decide_eq_true c20
    have c20b1:decide (2<l1.length)=true:=decide_eq_true (by omega)
    clear c20;by_cases c21:(rd l1 2)=0
    ·rw [if_pos c21] at H
     have c21b0:=beq_iff_eq.mpr c21;have c21b1:=bne_eq_false_iff_eq.mpr c21;clear c21;obtain rfl:=Option.some.inj H
     have p435:0≤(0:Int):=(by omega)
     have q435:0<(l1.length:Int):=of_decide_eq_true (by first|(with_reducible assumption)|assumption)
     obtain ⟨ad435,e435,hx435_0⟩:=Kd.at_int HR1.out 0 p435 q435;cases e435
     have qi435:(0<l1.length)=True:=eq_true (by omega)
     (try rw [show ((0:Int)).toNat=0 from rfl] at hx435_0)
     (try rw [Addr.add_zero'] at hx435_0)
     replace p435:=eq_true p435;replace q435:=eq_true q435
     have p436:0≤(1:Int):=(by omega)
     have q436:1<(l1.length:Int):=of_decide_eq_true (by first|(with_reducible assumption)|assumption)
     obtain ⟨ad436,e436,hx436_0⟩:=Kd.at_int HR1.out 1 p436 q436
     obtain rfl:ad435=ad436:=(by injection e436)
     (try simp only [show (1:Int).toNat=1 from rfl,Nat.reduceMul,Nat.reduceEqDiff,Go.Addr.add,↓reduceIte] at hx436_0)
     have qi436:(1<l1.length)=True:=eq_true (by omega)
     (try rw [show ((1:Int)).toNat=1 from rfl] at hx436_0)
     replace p436:=eq_true p436;replace q436:=eq_true q436
     have p449:0≤(2:Int):=(by omega)
     have q449:2<(l1.length:Int):=of_decide_eq_true (by first|(with_reducible assumption)|assumption)
     obtain ⟨ad449,e449,hx449_0⟩:=Kd.at_int HR1.out 2 p449 q449
     obtain rfl:ad435=ad449:=(by injection e449)
     (try simp only [show (2:Int).toNat=2 from rfl,Nat.reduceMul,Nat.reduceEqDiff,Go.Addr.add,↓reduceIte] at hx449_0)
     have qi449:(2<l1.length)=True:=eq_true (by omega)
     (try rw [show ((2:Int)).toNat=2 from rfl] at hx449_0)
     replace p449:=eq_true p449;replace q449:=eq_true q449
     go_enter Try.func35,Try.ntmps35
     go_wp2
     repeat (go_quiet (fail);try go_wp2)
     go_ret
     exact ⟨by first|rfl|(simp;done)|(simp [*];done),by repeat (first|exact Drawn0.refl _|apply Drawn0.step)⟩
    rw [if_neg c21] at H;have c21b0:((rd l1 2)==0)=false:=beq_eq_false_iff_ne.mpr c21;have c21b1:((rd l1 2) != 0)=true:=bne_iff_ne.mpr c21;replace H:=Option.bind_eq_some_iff.mp H;obtain ⟨t450,A220,H⟩:=H
    replace H:((r18_abs.f (wrap64 ((wrap64 ((wrap64 (16*a3))+8))-(rd l1 1)))).bind fun t451=>((r01_Div.f k (wrap64 (65535*(wrap64 (t450+t451)))) (rd l1 2)).bind fun t453=>(some t453)))=some r:=H
    have A22:=Aside0.mk A220;clear A220;replace H:=Option.bind_eq_some_iff.mp H;obtain ⟨t451,A230,H⟩:=H
    replace H:((r01_Div.f k (wrap64 (65535*(wrap64 (t450+t451)))) (rd l1 2)).bind fun t453=>(some t453))=some r:=H
    have A23:=Aside0.mk A230;clear A230;replace H:=Option.bind_eq_some_iff.mp H;obtain ⟨t453,A240,H⟩:=H;replace H:(some t453)=some r:=H;have A24:=Aside0.mk A240;clear A240;obtain rfl:=Option.some.inj H
    have p435:0≤(0:Int):=(by omega)
    have q435:0<(l1.length:Int):=of_decide_eq_true (by first|(with_reducible assumption)|assumption)
    obtain ⟨ad435,e435,hx435_0⟩:=Kd.at_int HR1.out 0 p435 q435;cases e435
    have qi435:(0<l1.length)=True:=eq_true (by omega)
    (try rw [show ((0:Int)).toNat=0 from rfl] at hx435_0)
    (try rw [Addr.add_zero'] at hx435_0)
    replace p435:=eq_true p435;replace q435:=eq_true q435
    have p436:0≤(1:Int):=(by omega)
    have q436:1<(l1.length:Int):=of_decide_eq_true (by first|(with_reducible assumption)|assumption)
    obtain ⟨ad436,e436,hx436_0⟩:=Kd.at_int HR1.out 1 p436 q436
    obtain rfl:ad435=ad436:=(by injection e436)
    (try simp only [show (1:Int).toNat=1 from rfl,Nat.reduceMul,Nat.reduceEqDiff,Go.Addr.add,↓reduceIte] at hx436_0)
    have qi436:(1<l1.length)=True:=eq_true (by omega)
    (try rw [show ((1:Int)).toNat=1 from rfl] at hx436_0)
    replace p436:=eq_true p436;replace q436:=eq_true q436
    have p449:0≤(2:Int):=(by omega)
    have q449:2<(l1.length:Int):=of_decide_eq_true (by first|(with_reducible assumption)|assumption)
    obtain ⟨ad449,e449,hx449_0⟩:=Kd.at_int HR1.out 2 p449 q449
    obtain rfl:ad435=ad449:=(by injection e449)
    (try simp only [show (2:Int).toNat=2 from rfl,Nat.reduceMul,Nat.reduceEqDiff,Go.Addr.add,↓reduceIte] at hx449_0)
    have qi449:(2<l1.length)=True:=eq_true (by omega)
    (try rw [show ((2:Int)).toNat=2 from rfl] at hx449_0)
    replace p449:=eq_true p449;replace q449:=eq_true q449
    have p452:0≤(2:Int):=(by omega);have q452:2<(l1.length:Int):=of_decide_eq_true (by first|(with_reducible assumption)|assumption);obtain ⟨ad452,e452,hx452_0⟩:=Kd.at_int HR1.out 2 p452 q452;obtain rfl:ad435=ad452:=(by injection e452);(try simp only [show (2:Int).toNat=2 from rfl,Nat.reduceMul,Nat.reduceEqDiff,Go.Addr.add,↓reduceIte] at hx452_0);have qi452:(2<l1.length)=True:=eq_true (by omega);(try rw [show ((2:Int)).toNat=2 from rfl] at hx452_0);replace p452:=eq_true p452;replace q452:=eq_true q452
    go_enter Try.func35,Try.ntmps35
    go_wp2_with (first|(go_at_call 53;(with_reducible refine (r18_abs.calls (wrap64 ((wrap64 ((wrap64 (16*a2))+8))-(rd l1 0))) t450 _ A22.out).mono ?_);rintro e w' ⟨rfl,⟨nd,rfl⟩⟩;(try first|exact ⟨rfl,_,World.drewN_drewN _ _ _⟩|exact ⟨rfl,_,Eq.trans (World.drewN_drewN _ _ _) (congrArg (World.drewN _) (Nat.add_assoc _ _ _))⟩))|(go_at_call 53;(with_reducible refine (r18_abs.calls (wrap64 ((wrap64 ((wrap64 (16*a3))+8))-(rd l1 1))) t451 _ A23.out).mono ?_);rintro e w' ⟨rfl,⟨nd,rfl⟩⟩;(try first|exact ⟨rfl,_,World.drewN_drewN _ _ _⟩|exact ⟨rfl,_,Eq.trans (World.drewN_drewN _ _ _) (congrArg (World.drewN _) (Nat.add_assoc _ _ _))⟩))|(go_at_call 34;(with_reducible refine (r01_Div.calls k (wrap64 (65535*(wrap64 (t450+t451)))) (rd l1 2) t453 _ A24.out).mono ?_);rintro e w' ⟨rfl,⟨nd,rfl⟩⟩;(try first|exact ⟨rfl,_,World.drewN_drewN _ _ _⟩|exact ⟨rfl,_,Eq.trans (World.drewN_drewN _ _ _) (congrArg (World.drewN _) (Nat.add_assoc _ _ _))⟩)))
    repeat (go_quiet (first|(go_at_call 53;(with_reducible refine (r18_abs.calls (wrap64 ((wrap64 ((wrap64 (16*a2))+8))-(rd l1 0))) t450 _ A22.out).mono ?_);rintro e w' ⟨rfl,⟨nd,rfl⟩⟩;(try first|exact ⟨rfl,_,World.drewN_drewN _ _ _⟩|exact ⟨rfl,_,Eq.trans (World.drewN_drewN _ _ _) (congrArg (World.drewN _) (Nat.add_assoc _ _ _))⟩))|(go_at_call 53;(with_reducible refine (r18_abs.calls (wrap64 ((wrap64 ((wrap64 (16*a3))+8))-(rd l1 1))) t451 _ A23.out).mono ?_);rintro e w' ⟨rfl,⟨nd,rfl⟩⟩;(try first|exact ⟨rfl,_,World.drewN_drewN _ _ _⟩|exact ⟨rfl,_,Eq.trans (World.drewN_drewN _ _ _) (congrArg (World.drewN _) (Nat.add_assoc _ _ _))⟩))|(go_at_call 34;(with_reducible refine (r01_Div.calls k (wrap64 (65535*(wrap64 (t450+t451)))) (rd l1 2) t453 _ A24.out).mono ?_);rintro e w' ⟨rfl,⟨nd,rfl⟩⟩;(try first|exact ⟨rfl,_,World.drewN_drewN _ _ _⟩|exact ⟨rfl,_,Eq.trans (World.drewN_drewN _ _ _) (congrArg (World.drewN _) (Nat.add_assoc _ _ _))⟩)));try go_wp2_with (first|(go_at_call 53;(with_reducible refine (r18_abs.calls (wrap64 ((wrap64 ((wrap64 (16*a2))+8))-(rd l1 0))) t450 _ A22.out).mono ?_);rintro e w' ⟨rfl,⟨nd,rfl⟩⟩;(try first|exact ⟨rfl,_,World.drewN_drewN _ _ _⟩|exact ⟨rfl,_,Eq.trans (World.drewN_drewN _ _ _) (congrArg (World.drewN _) (Nat.add_assoc _ _ _))⟩))|(go_at_call 53;(with_reducible refine (r18_abs.calls (wrap64 ((wrap64 ((wrap64 (16*a3))+8))-(rd l1 1))) t451 _ A23.out).mono ?_);rintro e w' ⟨rfl,⟨nd,rfl⟩⟩;(try first|exact ⟨rfl,_,World.drewN_drewN _ _ _⟩|exact ⟨rfl,_,Eq.trans (World.drewN_drewN _ _ _) (congrArg (World.drewN _) (Nat.add_assoc _ _ _))⟩))|(go_at_call 34;(with_reducible refine (r01_Div.calls k (wrap64 (65535*(wrap64 (t450+t451)))) (rd l1 2) t453 _ A24.out).mono ?_);rintro e w' ⟨rfl,⟨nd,rfl⟩⟩;(try first|exact ⟨rfl,_,World.drewN_drewN _ _ _⟩|exact ⟨rfl,_,Eq.trans (World.drewN_drewN _ _ _) (congrArg (World.drewN _) (Nat.add_assoc _ _ _))⟩))))
    go_ret
    exact ⟨by first|rfl|(simp;done)|(simp [*];done),by repeat (first|exact Drawn0.refl _|apply Drawn0.step)⟩
   rw [if_neg c20] at H
   exact absurd H (by simp)
  rw [if_neg c6] at H
  exact absurd H (by simp)
 rw [if_neg c5] at H
 exact absurd H (by simp)


end Go.Proofs.Ytmlcobnidfkhfaa.Q
