/- Each Go function of the law as a Lean function, with the proof that its call comes to just that, for every input; written by hp.py, a program of this session over the kit own print of the translation. -/
import Derived.Test.YtmlcobnidfkhfaaQ0
import Derived.Test.YtmlcobnidfkhfaaQ1
namespace Go.Proofs.Ytmlcobnidfkhfaa.Q
open Go.RowKit Go.Proofs.YtmlcobnidfkhfaaW.PrintWords Go.Proofs.YtmlcobnidfkhfaaW.PrintLast Go.Proofs.YtmlcobnidfkhfaaW.PrintMore
attribute [local go_sem] max2_int min2_int max_two min_two max_three min_three max_four min_four   -- for this text's walks alone
set_option linter.unusedVariables false
set_option linter.unusedSimpArgs false
open Go.Proofs.Ytmlcobnidfkhfaa.Clo Go.Proofs.Ytmlcobnidfkhfaa.Mk0

attribute [local go_sem high] eqA38
/-! ### r01_Floor: function 49 -/
def r01_Floor.j0:Nat→Int→Int→Bool→Option (Int)
 | 0,_,_,_=>none
 | k+1,x0,x1,x14=>if x14=true then (some 9223372036854775807) else (if x1=0 then (none) else (if (Int.tmod x0 x1)=0 then (some (wrap64 (Int.tdiv x0 x1))) else (if ((decide ((Int.tmod x0 x1)<0)) != (decide (x1<0)))=true then (some (wrap64 ((wrap64 (Int.tdiv x0 x1))-1))) else (some (wrap64 (Int.tdiv x0 x1))))))
def r01_Floor.f (k:Nat) (a0:Int) (a1:Int):Option (Int):=if a1=0 then (some 0) else (if a0=(-9223372036854775808) then (r01_Floor.j0 k a0 a1 (a1==(-1))) else (r01_Floor.j0 k a0 a1 false))
theorem r01_Floor.mono_l:∀ k,(∀ y0 y1 y2,LeO (r01_Floor.j0 k y0 y1 y2) (r01_Floor.j0 (k+1) y0 y1 y2))
 | 0=>fun _ _ _ r h=>by simp [r01_Floor.j0] at h
 | k+1=>by
  have ih0:=r01_Floor.mono_l k
  ·intro y0 y1 y2
   unfold r01_Floor.j0
   repeat' first
   | (with_reducible exact ih0 _ _ _)
   | (with_reducible exact LeO.refl _)
   | (with_reducible exact LeO.none _)
   | (with_reducible refine LeO.ite ?_ ?_)
   | (with_reducible refine LeO.bind ?_ (fun _=>?_))
theorem r01_Floor.mono:∀ a0 a1 k,LeO (r01_Floor.f k a0 a1) (r01_Floor.f (k+1) a0 a1):=by
 intro a0 a1 k;have ih0:=r01_Floor.mono_l k
 unfold r01_Floor.f
 repeat' first
   | (with_reducible exact ih0 _ _ _)
   | (with_reducible exact LeO.refl _)
   | (with_reducible exact LeO.none _)
   | (with_reducible refine LeO.ite ?_ ?_)
   | (with_reducible refine LeO.bind ?_ (fun _=>?_))
set_option maxHeartbeats 8000000 in
set_option maxRecDepth 100000 in
theorem r01_Floor.calls (k:Nat) (a0:Int) (a1:Int) (r:Int) (w:World) (h:r01_Floor.f k a0 a1=some r) :
  Calls Try.prog 49 #[.int .i64 a0,.int .i64 a1] w fun e w'=>e = .returned (.int .i64 r)∧Drawn0 w w':=by
 have H:(if a1=0 then (some 0) else (if a0=(-9223372036854775808) then (r01_Floor.j0 k a0 a1 (a1==(-1))) else (r01_Floor.j0 k a0 a1 false)))=some r:=h
 clear h;by_cases c3:a1=0
 ·rw [if_pos c3] at H
  have c3b0:=beq_iff_eq.mpr c3;have c3b1:=bne_eq_false_iff_eq.mpr c3;clear c3;obtain rfl:=Option.some.inj H
  go_enter Try.func49,Try.ntmps49
  go_wp2
  repeat (go_quiet (fail);try go_wp2)
  go_ret
  exact ⟨by first|rfl|(simp;done)|(simp [*];done),by repeat (first|exact Drawn0.refl _|apply Drawn0.step)⟩
 rw [if_neg c3] at H;have c3b0:(a1==0)=false:=beq_eq_false_iff_ne.mpr c3;have c3b1:(a1 != 0)=true:=bne_iff_ne.mpr c3;have HC4:=Aside0.mk H;clear H
 go_enter Try.func49,Try.ntmps49
 go_upto_region 3 with (fail)
 repeat (go_quiet (fail);go_upto_region 3 with (fail))
 go_cut [14] (fun v14 wc=>∃ (kq:Nat) (x14_3:Bool),v14 = .bool x14_3∧Aside0 (r01_Floor.j0 kq a0 a1 x14_3=some r)∧Aside0 (kq≤k)∧Drawn0 w wc)
 case first =>
  have H:=HC4.out;clear HC4;by_cases c5:a0=(-9223372036854775808)
  ·rw [if_pos c5] at H
   have c5b0:=beq_iff_eq.mpr c5;have c5b1:=bne_eq_false_iff_eq.mpr c5;clear c5
   (first|rw [c5b0]|(simp only [i64_w,i32_w];rw [c5b0])|skip)
   have H':=Aside0.mk H;clear H
   go_wp2
   repeat (go_quiet (fail);try go_wp2)
   go_meet
   case rel=>exact ⟨_,((a1==(-1))),(by first|rfl|(simp;done)|(simp [*];done)),H',⟨by first|omega|exact Nat.le_refl _⟩,by repeat (first|exact Drawn0.refl _|apply Drawn0.step)⟩
  rw [if_neg c5] at H;have c5b0:(a0==(-9223372036854775808))=false:=beq_eq_false_iff_ne.mpr c5;have c5b1:(a0 != (-9223372036854775808))=true:=bne_iff_ne.mpr c5
  (first|rw [c5b0]|(simp only [i64_w,i32_w];rw [c5b0])|skip)
  have H':=Aside0.mk H;clear H
  go_wp2
  repeat (go_quiet (fail);try go_wp2)
  go_meet
  case rel=>exact ⟨_,(false),(by first|rfl|(simp;done)|(simp [*];done)),H',⟨by first|omega|exact Nat.le_refl _⟩,by repeat (first|exact Drawn0.refl _|apply Drawn0.step)⟩
 case rest =>
  clear HC4;obtain ⟨kq,x14_3,rfl,HA,HJ3,⟨mc3,rfl⟩⟩:=hcut
  cases kq with
  | zero=>exact absurd HA.out (by simp [r01_Floor.j0])
  | succ kj3 =>
   have H:=HA.out;clear HA;simp only [r01_Floor.j0] at H;by_cases c6:x14_3=true
   ·subst c6
    have H1:(some 9223372036854775807)=some r:=by rw [if_pos rfl] at H;exact H
    clear H;have H:=H1;clear H1;obtain rfl:=Option.some.inj H
    go_wp2
    repeat (go_quiet (fail);try go_wp2)
    go_ret
    exact ⟨by first|rfl|(simp;done)|(simp [*];done),by repeat (first|exact Drawn0.refl _|apply Drawn0.step)⟩
   replace c6:=Bool.eq_false_iff.mpr c6;subst c6
   have H1:(if a1=0 then (none) else (if (Int.tmod a0 a1)=0 then (some (wrap64 (Int.tdiv a0 a1))) else (if ((decide ((Int.tmod a0 a1)<0)) != (decide (a1<0)))=true then (some (wrap64 ((wrap64 (Int.tdiv a0 a1))-1))) else (some (wrap64 (Int.tdiv a0 a1))))))=some r:=by rw [if_neg (show ¬ (false=true) by decide)] at H;exact H
   clear H;have H:=H1;clear H1;by_cases c7:a1=0
   ·rw [if_pos c7] at H
    exact absurd H (by simp)
   rw [if_neg c7] at H;have c7b0:(a1==0)=false:=beq_eq_false_iff_ne.mpr c7;have c7b1:(a1 != 0)=true:=bne_iff_ne.mpr c7;by_cases c8:(Int.tmod a0 a1)=0
   ·rw [if_pos c8] at H
    have c8b0:=beq_iff_eq.mpr c8;have c8b1:=bne_eq_false_iff_eq.mpr c8;clear c8;obtain rfl:=Option.some.inj H
    go_wp2
    repeat (go_quiet (fail);try go_wp2)
    go_ret
    exact ⟨by first|rfl|(simp;done)|(simp [*];done),by repeat (first|exact Drawn0.refl _|apply Drawn0.step)⟩
   rw [if_neg c8] at H;have c8b0:((Int.tmod a0 a1)==0)=false:=beq_eq_false_iff_ne.mpr c8;have c8b1:((Int.tmod a0 a1) != 0)=true:=bne_iff_ne.mpr c8;by_cases c9:((decide ((Int.tmod a0 a1)<0)) != (decide (a1<0)))=true
   ·rw [if_pos c9] at H
    have c9b0:((decide ((Int.tmod a0 a1)<0)) != (decide (a1<0)))=true:=c9
    (try (have c9b1:decide ((decide ((Int.tmod a0 a1)<0))=(decide (a1<0)))=false:=by simpa using c9))
    (try (have c9b2:((decide ((Int.tmod a0 a1)<0))==(decide (a1<0)))=false:=by simpa using c9))
    (try (have c9b3:¬ ((decide ((Int.tmod a0 a1)<0))=(decide (a1<0))):=by simpa using c9))
    clear c9;obtain rfl:=Option.some.inj H
    go_wp2
    repeat (go_quiet (fail);try go_wp2)
    go_ret
    exact ⟨by first|rfl|(simp;done)|(simp [*];done),by repeat (first|exact Drawn0.refl _|apply Drawn0.step)⟩
   rw [if_neg c9] at H
   have c9b0:((decide ((Int.tmod a0 a1)<0)) != (decide (a1<0)))=false:=by simpa using c9
   (try (have c9b1:decide ((decide ((Int.tmod a0 a1)<0))=(decide (a1<0)))=true:=by simpa using c9))
   (try (have c9b2:((decide ((Int.tmod a0 a1)<0))==(decide (a1<0)))=true:=by simpa using c9))
   clear c9;obtain rfl:=Option.some.inj H
   go_wp2
   repeat (go_quiet (fail);try go_wp2)
   go_ret
   exact ⟨by first|rfl|(simp;done)|(simp [*];done),by repeat (first|exact Drawn0.refl _|apply Drawn0.step)⟩

end Go.Proofs.Ytmlcobnidfkhfaa.Q
