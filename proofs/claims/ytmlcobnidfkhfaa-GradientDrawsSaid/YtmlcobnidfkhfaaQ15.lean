/- Each Go function of the law as a Lean function, with the proof that its call comes to just that, for every input; written by hp.py, a program of this session over the kit own print of the translation. -/
import Derived.Test.YtmlcobnidfkhfaaQ0
import Derived.Test.YtmlcobnidfkhfaaQ14
namespace Go.Proofs.Ytmlcobnidfkhfaa.Q
open Go.RowKit Go.Proofs.YtmlcobnidfkhfaaW.PrintWords Go.Proofs.YtmlcobnidfkhfaaW.PrintLast Go.Proofs.YtmlcobnidfkhfaaW.PrintMore
attribute [local go_sem] max2_int min2_int max_two min_two max_three min_three max_four min_four   -- for this text's walks alone
set_option linter.unusedVariables false
set_option linter.unusedSimpArgs false
open Go.Proofs.Ytmlcobnidfkhfaa.Clo Go.Proofs.Ytmlcobnidfkhfaa.Mk0

/-! ### r01_Abs: function 50 -/
def r01_Abs.f (a0:Int):Option (Int):=if a0<0 then (some (IntKind.u64.wrap (-(IntKind.u64.wrap (a0))))) else (some (IntKind.u64.wrap (a0)))
set_option maxHeartbeats 8000000 in
set_option maxRecDepth 100000 in
theorem r01_Abs.calls (a0:Int) (r:Int) (w:World) (h:r01_Abs.f a0=some r) :
  Calls Try.prog 50 #[.int .i64 a0] w fun e w'=>e = .returned (.int .u64 r)∧Drawn0 w w':=by
 have H:(if a0<0 then (some (IntKind.u64.wrap (-(IntKind.u64.wrap (a0))))) else (some (IntKind.u64.wrap (a0))))=some r:=h
 clear h;by_cases c2:a0<0
 ·rw [if_pos c2] at H
  have c2b0:=decide_eq_true c2;clear c2;obtain rfl:=Option.some.inj H
  go_enter Try.func50,Try.ntmps50
  go_wp2
  go_ret
  exact ⟨by first|rfl|(simp;done)|(simp [*];done),by repeat (first|exact Drawn0.refl _|apply Drawn0.step)⟩
 rw [if_neg c2] at H;have c2b0:=decide_eq_false c2;clear c2;obtain rfl:=Option.some.inj H
 go_enter Try.func50,Try.ntmps50
 go_wp2
 go_ret
 exact ⟨by first|rfl|(simp;done)|(simp [*];done),by repeat (first|exact Drawn0.refl _|apply Drawn0.step)⟩

/-! ### r01_Div: function 34 -/
def r01_Div.j0:Nat→Int→Int→Int→Bool→Option (Int)
 | 0,_,_,_,_=>none
 | k+1,x0,x1,x5,x17=>if x17=true then (some x5) else ((r01_Abs.f (wrap64 (x0-(wrap64 (x1*x5))))).bind fun t368=>((r01_Abs.f x1).bind fun t369=>(if t368≥(IntKind.u64.wrap (t369-t368)) then (some (wrap64 (x5+1))) else (some x5))))
def r01_Div.f (k:Nat) (a0:Int) (a1:Int):Option (Int):=if a1=0 then (some 0) else ((r01_Floor.f k a0 a1).bind fun t367=>(if a0=(-9223372036854775808) then (r01_Div.j0 k a0 a1 t367 (a1==(-1))) else (r01_Div.j0 k a0 a1 t367 false)))
theorem r01_Div.mono_l:∀ k,(∀ y0 y1 y2 y3,LeO (r01_Div.j0 k y0 y1 y2 y3) (r01_Div.j0 (k+1) y0 y1 y2 y3))
 | 0=>fun _ _ _ _ r h=>by simp [r01_Div.j0] at h
 | k+1=>by
  have ih0:=r01_Div.mono_l k
  ·intro y0 y1 y2 y3
   unfold r01_Div.j0
   repeat' first
   | (with_reducible exact ih0 _ _ _ _)
   | (with_reducible exact r01_Floor.mono _ _ _)
   | (with_reducible exact LeO.refl _)
   | (with_reducible exact LeO.none _)
   | (with_reducible refine LeO.ite ?_ ?_)
   | (with_reducible refine LeO.bind ?_ (fun _=>?_))
theorem r01_Div.mono:∀ a0 a1 k,LeO (r01_Div.f k a0 a1) (r01_Div.f (k+1) a0 a1):=by
 intro a0 a1 k;have ih0:=r01_Div.mono_l k
 unfold r01_Div.f
 repeat' first
   | (with_reducible exact ih0 _ _ _ _)
   | (with_reducible exact r01_Floor.mono _ _ _)
   | (with_reducible exact LeO.refl _)
   | (with_reducible exact LeO.none _)
   | (with_reducible refine LeO.ite ?_ ?_)
   | (with_reducible refine LeO.bind ?_ (fun _=>?_))
set_option maxHeartbeats 8000000 in
set_option maxRecDepth 100000 in
theorem r01_Div.calls (k:Nat) (a0:Int) (a1:Int) (r:Int) (w:World) (h:r01_Div.f k a0 a1=some r) :
  Calls Try.prog 34 #[.int .i64 a0,.int .i64 a1] w fun e w'=>e = .returned (.int .i64 r)∧Drawn0 w w':=by
 have H:(if a1=0 then (some 0) else ((r01_Floor.f k a0 a1).bind fun t367=>(if a0=(-9223372036854775808) then (r01_Div.j0 k a0 a1 t367 (a1==(-1))) else (r01_Div.j0 k a0 a1 t367 false))))=some r:=h
 clear h;by_cases c3:a1=0
 ·rw [if_pos c3] at H
  have c3b0:=beq_iff_eq.mpr c3;have c3b1:=bne_eq_false_iff_eq.mpr c3;clear c3;obtain rfl:=Option.some.inj H
  go_enter Try.func34,Try.ntmps34
  go_wp2
  go_ret
  exact ⟨by first|rfl|(simp;done)|(simp [*];done),by repeat (first|exact Drawn0.refl _|apply Drawn0.step)⟩
 rw [if_neg c3] at H;have c3b0:(a1==0)=false:=beq_eq_false_iff_ne.mpr c3;have c3b1:(a1 != 0)=true:=bne_iff_ne.mpr c3;replace H:=Option.bind_eq_some_iff.mp H;obtain ⟨t367,A40,H⟩:=H
 replace H:(if a0=(-9223372036854775808) then (r01_Div.j0 k a0 a1 t367 (a1==(-1))) else (r01_Div.j0 k a0 a1 t367 false))=some r:=H
 have A4:=Aside0.mk A40;clear A40;have HC5:=Aside0.mk H;clear H
 go_enter Try.func34,Try.ntmps34
 go_upto_region 4 with (first|((with_reducible refine gate_callee (f:=49) rfl ?_);refine goesL_ (some 11) rfl rfl Try.func49 (by kernel_rfl) rfl #[.int .i64 a0,.int .i64 a1] rfl (by (try simp only [mA_,mC_,mN_]);first|done|rfl|(simp only [dL_,kL_];rfl)) ?_;(with_reducible refine (r01_Floor.calls k a0 a1 t367 _ A4.out).mono ?_);rintro e w' ⟨rfl,⟨nd,rfl⟩⟩;refine ⟨_,rfl,?_⟩))
 (try simp only [Act.put,tS_,tZ_,tC_])
 go_cut [17] (fun v17 wc=>∃ (kq:Nat) (x17_4:Bool),v17 = .bool x17_4∧Aside0 (r01_Div.j0 kq a0 a1 t367 x17_4=some r)∧Aside0 (kq≤k)∧Drawn0 w wc)
 case first =>
  have H:=HC5.out;clear HC5;by_cases c6:a0=(-9223372036854775808)
  ·rw [if_pos c6] at H
   have c6b0:=beq_iff_eq.mpr c6;have c6b1:=bne_eq_false_iff_eq.mpr c6;clear c6
   (first|rw [c6b0]|(simp only [i64_w,i32_w];rw [c6b0])|skip)
   have H':=Aside0.mk H;clear H
   go_wp2
   go_meet
   case rel=>exact ⟨_,((a1==(-1))),(by first|rfl|(simp;done)|(simp [*];done)),H',⟨by first|omega|exact Nat.le_refl _⟩,by repeat (first|exact Drawn0.refl _|apply Drawn0.step)⟩
  rw [if_neg c6] at H;have c6b0:(a0==(-9223372036854775808))=false:=beq_eq_false_iff_ne.mpr c6;have c6b1:(a0 != (-9223372036854775808))=true:=bne_iff_ne.mpr c6
  (first|rw [c6b0]|(simp only [i64_w,i32_w];rw [c6b0])|skip)
  have H':=Aside0.mk H;clear H
  go_wp2
  go_meet
  case rel=>exact ⟨_,(false),(by first|rfl|(simp;done)|(simp [*];done)),H',⟨by first|omega|exact Nat.le_refl _⟩,by repeat (first|exact Drawn0.refl _|apply Drawn0.step)⟩
 case rest =>
  clear HC5;obtain ⟨kq,x17_4,rfl,HA,HJ4,⟨mc4,rfl⟩⟩:=hcut
  cases kq with
  | zero=>exact absurd HA.out (by simp [r01_Div.j0])
  | succ kj4 =>
   have H:=HA.out;clear HA;simp only [r01_Div.j0] at H;by_cases c7:x17_4=true
   ·subst c7
    have H1:(some t367)=some r:=by rw [if_pos rfl] at H;exact H
    clear H;have H:=H1;clear H1;obtain rfl:=Option.some.inj H
    go_wp2
    go_ret
    exact ⟨by first|rfl|(simp;done)|(simp [*];done),by repeat (first|exact Drawn0.refl _|apply Drawn0.step)⟩
   replace c7:=Bool.eq_false_iff.mpr c7;subst c7
   have H1:((r01_Abs.f (wrap64 (a0-(wrap64 (a1*t367))))).bind fun t368=>((r01_Abs.f a1).bind fun t369=>(if t368≥(IntKind.u64.wrap (t369-t368)) then (some (wrap64 (t367+1))) else (some t367))))=some r:=by rw [if_neg (show ¬ (false=true) by decide)] at H;exact H
   clear H;have H:=H1;clear H1;replace H:=Option.bind_eq_some_iff.mp H;obtain ⟨t368,A80,H⟩:=H
   replace H:((r01_Abs.f a1).bind fun t369=>(if t368≥(IntKind.u64.wrap (t369-t368)) then (some (wrap64 (t367+1))) else (some t367)))=some r:=H
   have A8:=Aside0.mk A80;clear A80;replace H:=Option.bind_eq_some_iff.mp H;obtain ⟨t369,A90,H⟩:=H
   replace H:(if t368≥(IntKind.u64.wrap (t369-t368)) then (some (wrap64 (t367+1))) else (some t367))=some r:=H
   have A9:=Aside0.mk A90;clear A90;by_cases c10:t368≥(IntKind.u64.wrap (t369-t368))
   ·rw [if_pos c10] at H
    have c10b0:=decide_eq_true c10;clear c10;obtain rfl:=Option.some.inj H
    go_wp2_with (first|((with_reducible refine gate_callee (f:=50) rfl ?_);refine goesL_ (some 24) rfl rfl Try.func50 (by kernel_rfl) rfl #[.int .i64 (wrap64 (a0-(wrap64 (a1*t367))))] rfl (by (try simp only [mA_,mC_,mN_]);first|done|rfl|(simp only [dL_,kL_];rfl)) ?_;(with_reducible refine (r01_Abs.calls (wrap64 (a0-(wrap64 (a1*t367)))) t368 _ A8.out).mono ?_);rintro e w' ⟨rfl,⟨nd,rfl⟩⟩;refine ⟨_,rfl,?_⟩)|((with_reducible refine gate_callee (f:=50) rfl ?_);refine goesL_ (some 27) rfl rfl Try.func50 (by kernel_rfl) rfl #[.int .i64 a1] rfl (by (try simp only [mA_,mC_,mN_]);first|done|rfl|(simp only [dL_,kL_];rfl)) ?_;(with_reducible refine (r01_Abs.calls a1 t369 _ A9.out).mono ?_);rintro e w' ⟨rfl,⟨nd,rfl⟩⟩;refine ⟨_,rfl,?_⟩))
    go_ret
    exact ⟨by first|rfl|(simp;done)|(simp [*];done),by repeat (first|exact Drawn0.refl _|apply Drawn0.step)⟩
   rw [if_neg c10] at H;have c10b0:=decide_eq_false c10;clear c10;obtain rfl:=Option.some.inj H
   go_wp2_with (first|((with_reducible refine gate_callee (f:=50) rfl ?_);refine goesL_ (some 24) rfl rfl Try.func50 (by kernel_rfl) rfl #[.int .i64 (wrap64 (a0-(wrap64 (a1*t367))))] rfl (by (try simp only [mA_,mC_,mN_]);first|done|rfl|(simp only [dL_,kL_];rfl)) ?_;(with_reducible refine (r01_Abs.calls (wrap64 (a0-(wrap64 (a1*t367)))) t368 _ A8.out).mono ?_);rintro e w' ⟨rfl,⟨nd,rfl⟩⟩;refine ⟨_,rfl,?_⟩)|((with_reducible refine gate_callee (f:=50) rfl ?_);refine goesL_ (some 27) rfl rfl Try.func50 (by kernel_rfl) rfl #[.int .i64 a1] rfl (by (try simp only [mA_,mC_,mN_]);first|done|rfl|(simp only [dL_,kL_];rfl)) ?_;(with_reducible refine (r01_Abs.calls a1 t369 _ A9.out).mono ?_);rintro e w' ⟨rfl,⟨nd,rfl⟩⟩;refine ⟨_,rfl,?_⟩))
   go_ret
   exact ⟨by first|rfl|(simp;done)|(simp [*];done),by repeat (first|exact Drawn0.refl _|apply Drawn0.step)⟩


end Go.Proofs.Ytmlcobnidfkhfaa.Q
