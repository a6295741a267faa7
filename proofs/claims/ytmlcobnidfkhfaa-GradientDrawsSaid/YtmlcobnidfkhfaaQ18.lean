/- Each Go function of the law as a Lean function, with the proof that its call comes to just that, for every input; written by hp.py, a program of this session over the kit own print of the translation. -/
import Derived.Test.YtmlcobnidfkhfaaQ0
import Derived.Test.YtmlcobnidfkhfaaQ1
import Derived.Test.YtmlcobnidfkhfaaQ14
import Derived.Test.YtmlcobnidfkhfaaQ15
namespace Go.Proofs.Ytmlcobnidfkhfaa.Q
open Go.RowKit Go.Proofs.YtmlcobnidfkhfaaW.PrintWords Go.Proofs.YtmlcobnidfkhfaaW.PrintLast Go.Proofs.YtmlcobnidfkhfaaW.PrintMore
attribute [local go_sem] max2_int min2_int max_two min_two max_three min_three max_four min_four   -- for this text's walks alone
set_option linter.unusedVariables false
set_option linter.unusedSimpArgs false
open Go.Proofs.Ytmlcobnidfkhfaa.Clo Go.Proofs.Ytmlcobnidfkhfaa.Mk0

attribute [local go_sem high] eqA38
/-! ### r18_mod: function 37 -/
def r18_mod.f (k:Nat) (a0:Int) (a1:Int):Option (Int):=(r01_Floor.f k a0 a1).bind fun t416=>(some (wrap64 (a0-(wrap64 (a1*t416)))))
theorem r18_mod.mono:∀ a0 a1 k,LeO (r18_mod.f k a0 a1) (r18_mod.f (k+1) a0 a1):=by
 intro a0 a1 k
 unfold r18_mod.f
 repeat' first
   | (with_reducible exact r01_Floor.mono _ _ _)
   | (with_reducible exact LeO.refl _)
   | (with_reducible exact LeO.none _)
   | (with_reducible refine LeO.ite ?_ ?_)
   | (with_reducible refine LeO.bind ?_ (fun _=>?_))
set_option maxHeartbeats 8000000 in
set_option maxRecDepth 100000 in
theorem r18_mod.calls (k:Nat) (a0:Int) (a1:Int) (r:Int) (w:World) (h:r18_mod.f k a0 a1=some r) :
  Calls Try.prog 37 #[.int .i64 a0,.int .i64 a1] w fun e w'=>e = .returned (.int .i64 r)∧Drawn0 w w':=by
 have H:((r01_Floor.f k a0 a1).bind fun t416=>(some (wrap64 (a0-(wrap64 (a1*t416))))))=some r:=h
 clear h;replace H:=Option.bind_eq_some_iff.mp H;obtain ⟨t416,A30,H⟩:=H;replace H:(some (wrap64 (a0-(wrap64 (a1*t416)))))=some r:=H;have A3:=Aside0.mk A30;clear A30;obtain rfl:=Option.some.inj H
 go_enter Try.func37,Try.ntmps37
 go_wp2_with (first|((with_reducible refine gate_callee (f:=49) rfl ?_);refine goesL_ (some 9) rfl rfl Try.func49 (by kernel_rfl) rfl #[.int .i64 a0,.int .i64 a1] rfl (by (try simp only [mA_,mC_,mN_]);first|done|rfl|(simp only [dL_,kL_];rfl)) ?_;(with_reducible refine (r01_Floor.calls k a0 a1 t416 _ A3.out).mono ?_);rintro e w' ⟨rfl,⟨nd,rfl⟩⟩;refine ⟨_,rfl,?_⟩))
 go_ret
 exact ⟨by first|rfl|(simp;done)|(simp [*];done),by repeat (first|exact Drawn0.refl _|apply Drawn0.step)⟩

/-! ### r01_Product: function 61 -/
def r01_Product.f (a0:Int) (a1:Int):Option (Int × Int):=some (IntKind.u64.wrap ((IntKind.u64.wrap ((IntKind.u64.wrap ((a0 / 4294967296)*(a1 / 4294967296)))+((IntKind.u64.wrap ((IntKind.u64.wrap ((a0 / 4294967296)*(Go.bits .and .u64 a1 4294967295)))+((IntKind.u64.wrap ((Go.bits .and .u64 a0 4294967295)*(Go.bits .and .u64 a1 4294967295))) / 4294967296))) / 4294967296)))+((IntKind.u64.wrap ((IntKind.u64.wrap ((Go.bits .and .u64 a0 4294967295)*(a1 / 4294967296)))+(Go.bits .and .u64 (IntKind.u64.wrap ((IntKind.u64.wrap ((a0 / 4294967296)*(Go.bits .and .u64 a1 4294967295)))+((IntKind.u64.wrap ((Go.bits .and .u64 a0 4294967295)*(Go.bits .and .u64 a1 4294967295))) / 4294967296))) 4294967295))) / 4294967296)),IntKind.u64.wrap (a0*a1))
set_option maxHeartbeats 8000000 in
set_option maxRecDepth 100000 in
theorem r01_Product.calls (a0:Int) (a1:Int) (r1:Int) (r2:Int) (w:World) (h:r01_Product.f a0 a1=some (r1,r2)) :
  Calls Try.prog 61 #[.int .u64 a0,.int .u64 a1] w fun e w'=>e = .returned (.tuple #[.int .u64 r1,.int .u64 r2])∧Drawn0 w w':=by
 have H:(some (IntKind.u64.wrap ((IntKind.u64.wrap ((IntKind.u64.wrap ((a0 / 4294967296)*(a1 / 4294967296)))+((IntKind.u64.wrap ((IntKind.u64.wrap ((a0 / 4294967296)*(Go.bits .and .u64 a1 4294967295)))+((IntKind.u64.wrap ((Go.bits .and .u64 a0 4294967295)*(Go.bits .and .u64 a1 4294967295))) / 4294967296))) / 4294967296)))+((IntKind.u64.wrap ((IntKind.u64.wrap ((Go.bits .and .u64 a0 4294967295)*(a1 / 4294967296)))+(Go.bits .and .u64 (IntKind.u64.wrap ((IntKind.u64.wrap ((a0 / 4294967296)*(Go.bits .and .u64 a1 4294967295)))+((IntKind.u64.wrap ((Go.bits .and .u64 a0 4294967295)*(Go.bits .and .u64 a1 4294967295))) / 4294967296))) 4294967295))) / 4294967296)),IntKind.u64.wrap (a0*a1)))=some (r1,r2):=h;clear h;simp only [Option.some.injEq,Prod.mk.injEq] at H;obtain ⟨rfl,rfl⟩:=H
 go_enter Try.func61,Try.ntmps61
 go_wp2
 go_ret2
 exact ⟨by first|rfl|(simp;done)|(simp [*];done),by repeat (first|exact Drawn0.refl _|apply Drawn0.step)⟩

/-! ### r01_signed: function 62 -/
def r01_signed.j0:Nat→Int→Bool→Option (Int)
 | 0,_,_=>none
 | k+1,x1,x13=>if x13=true then (some (-9223372036854775808)) else (some (wrap64 (IntKind.u64.wrap (-x1))))
def r01_signed.f (k:Nat) (a0:Int) (a1:Int) (a2:Bool):Option (Int):=if a2=true then (if a0>0 then (r01_signed.j0 k a1 true) else (r01_signed.j0 k a1 (decide (a1>9223372036854775808)))) else (if a0>0 then (some 9223372036854775807) else (if a1>9223372036854775807 then (some 9223372036854775807) else (some (wrap64 (a1)))))
theorem r01_signed.mono_l:∀ k,(∀ y0 y1,LeO (r01_signed.j0 k y0 y1) (r01_signed.j0 (k+1) y0 y1))
 | 0=>fun _ _ r h=>by simp [r01_signed.j0] at h
 | k+1=>by
  have ih0:=r01_signed.mono_l k
  ·intro y0 y1
   unfold r01_signed.j0
   repeat' first
   | (with_reducible exact ih0 _ _)
   | (with_reducible exact LeO.refl _)
   | (with_reducible exact LeO.none _)
   | (with_reducible refine LeO.ite ?_ ?_)
   | (with_reducible refine LeO.bind ?_ (fun _=>?_))
theorem r01_signed.mono:∀ a0 a1 a2 k,LeO (r01_signed.f k a0 a1 a2) (r01_signed.f (k+1) a0 a1 a2):=by
 intro a0 a1 a2 k;have ih0:=r01_signed.mono_l k
 unfold r01_signed.f
 repeat' first
   | (with_reducible exact ih0 _ _)
   | (with_reducible exact LeO.refl _)
   | (with_reducible exact LeO.none _)
   | (with_reducible refine LeO.ite ?_ ?_)
   | (with_reducible refine LeO.bind ?_ (fun _=>?_))
set_option maxHeartbeats 8000000 in
set_option maxRecDepth 100000 in
theorem r01_signed.calls (k:Nat) (a0:Int) (a1:Int) (a2:Bool) (r:Int) (w:World) (h:r01_signed.f k a0 a1 a2=some r) :
  Calls Try.prog 62 #[.int .u64 a0,.int .u64 a1,.bool a2] w fun e w'=>e = .returned (.int .i64 r)∧Drawn0 w w':=by
 have H:(if a2=true then (if a0>0 then (r01_signed.j0 k a1 true) else (r01_signed.j0 k a1 (decide (a1>9223372036854775808)))) else (if a0>0 then (some 9223372036854775807) else (if a1>9223372036854775807 then (some 9223372036854775807) else (some (wrap64 (a1))))))=some r:=h
 clear h;by_cases c4:a2=true
 ·subst c4
  have H1:(if a0>0 then (r01_signed.j0 k a1 true) else (r01_signed.j0 k a1 (decide (a1>9223372036854775808))))=some r:=by rw [if_pos rfl] at H;exact H
  clear H;have H:=H1;clear H1;have HC5:=Aside0.mk H;clear H
  go_enter Try.func62,Try.ntmps62
  go_upto_region 2 with (fail)
  go_cut [13] (fun v13 wc=>∃ (kq:Nat) (x13_4:Bool),v13 = .bool x13_4∧Aside0 (r01_signed.j0 kq a1 x13_4=some r)∧Aside0 (kq≤k)∧Drawn0 w wc)
  case first =>
   have H:=HC5.out;clear HC5;by_cases c6:a0>0
   ·rw [if_pos c6] at H
    have c6b0:=decide_eq_true c6;clear c6
    (first|rw [c6b0]|(simp only [i64_w,i32_w];rw [c6b0])|skip)
    have H':=Aside0.mk H;clear H
    go_wp2
    go_meet
    case rel=>exact ⟨_,(true),(by first|rfl|(simp;done)|(simp [*];done)),H',⟨by first|omega|exact Nat.le_refl _⟩,by repeat (first|exact Drawn0.refl _|apply Drawn0.step)⟩
   rw [if_neg c6] at H;have c6b0:=decide_eq_false c6;clear c6
   (first|rw [c6b0]|(simp only [i64_w,i32_w];rw [c6b0])|skip)
   have H':=Aside0.mk H;clear H
   go_wp2
   go_meet
   case rel=>exact ⟨_,(decide (a1>9223372036854775808)),(by first|rfl|(simp;done)|(simp [*];done)),H',⟨by first|omega|exact Nat.le_refl _⟩,by repeat (first|exact Drawn0.refl _|apply Drawn0.step)⟩
  case rest =>
   clear HC5;obtain ⟨kq,x13_4,rfl,HA,HJ4,⟨mc4,rfl⟩⟩:=hcut
   cases kq with
   | zero=>exact absurd HA.out (by simp [r01_signed.j0])
   | succ kj4 =>
    have H:=HA.out;clear HA;simp only [r01_signed.j0] at H;by_cases c7:x13_4=true
    ·subst c7
     have H1:(some (-9223372036854775808))=some r:=by rw [if_pos rfl] at H;exact H
     clear H;have H:=H1;clear H1;obtain rfl:=Option.some.inj H
     go_wp2
     go_ret
     exact ⟨by first|rfl|(simp;done)|(simp [*];done),by repeat (first|exact Drawn0.refl _|apply Drawn0.step)⟩
    replace c7:=Bool.eq_false_iff.mpr c7;subst c7
    have H1:(some (wrap64 (IntKind.u64.wrap (-a1))))=some r:=by rw [if_neg (show ¬ (false=true) by decide)] at H;exact H
    clear H;have H:=H1;clear H1;obtain rfl:=Option.some.inj H
    go_wp2
    go_ret
    exact ⟨by first|rfl|(simp;done)|(simp [*];done),by repeat (first|exact Drawn0.refl _|apply Drawn0.step)⟩
 replace c4:=Bool.eq_false_iff.mpr c4;subst c4
 have H1:(if a0>0 then (some 9223372036854775807) else (if a1>9223372036854775807 then (some 9223372036854775807) else (some (wrap64 (a1)))))=some r:=by rw [if_neg (show ¬ (false=true) by decide)] at H;exact H
 clear H;have H:=H1;clear H1;by_cases c8:a0>0
 ·rw [if_pos c8] at H
  have c8b0:=decide_eq_true c8;clear c8;obtain rfl:=Option.some.inj H
  go_enter Try.func62,Try.ntmps62
  go_wp2
  go_ret
  exact ⟨by first|rfl|(simp;done)|(simp [*];done),by repeat (first|exact Drawn0.refl _|apply Drawn0.step)⟩
 rw [if_neg c8] at H;have c8b0:=decide_eq_false c8;clear c8;by_cases c9:a1>9223372036854775807
 ·rw [if_pos c9] at H
  have c9b0:=decide_eq_true c9;clear c9;obtain rfl:=Option.some.inj H
  go_enter Try.func62,Try.ntmps62
  go_wp2
  go_ret
  exact ⟨by first|rfl|(simp;done)|(simp [*];done),by repeat (first|exact Drawn0.refl _|apply Drawn0.step)⟩
 rw [if_neg c9] at H;have c9b0:=decide_eq_false c9;clear c9;obtain rfl:=Option.some.inj H
 go_enter Try.func62,Try.ntmps62
 go_wp2
 go_ret
 exact ⟨by first|rfl|(simp;done)|(simp [*];done),by repeat (first|exact Drawn0.refl _|apply Drawn0.step)⟩

/-! ### r01_Hypot: function 51 -/
mutual
def r01_Hypot.j0:Nat→Int→Int→Option (Int)
 | 0,_,_=>none
 | k+1,x9,x10=>r01_Hypot.l0 k x9 x10 0 9223372036854775808
def r01_Hypot.l0:Nat→Int→Int→Int→Int→Option (Int)
 | 0,_,_,_,_=>none
 | k+1,x9,x10,x11,x12=>if x12>0 then ((r01_Product.f (Go.bits .or .u64 x11 x12) (Go.bits .or .u64 x11 x12)).bind fun bt425=>(if bt425.1<x10 then (r01_Hypot.l0 k x9 x10 (Go.bits .or .u64 x11 x12) (x12 / 2)) else (if bt425.1=x10 then (if bt425.2≤x9 then (r01_Hypot.l0 k x9 x10 (Go.bits .or .u64 x11 x12) (x12 / 2)) else (r01_Hypot.l0 k x9 x10 x11 (x12 / 2))) else (r01_Hypot.l0 k x9 x10 x11 (x12 / 2))))) else ((r01_signed.f k 0 x11 false).bind fun t427=>(some t427))
end
def r01_Hypot.f (k:Nat) (a0:Int) (a1:Int):Option (Int):=(r01_Abs.f a0).bind fun t417=>((r01_Abs.f a0).bind fun t418=>((r01_Product.f t417 t418).bind fun bt419=>((r01_Abs.f a1).bind fun t421=>((r01_Abs.f a1).bind fun t422=>((r01_Product.f t421 t422).bind fun bt423=>(if (IntKind.u64.wrap (bt419.2+bt423.2))<bt419.2 then (r01_Hypot.j0 k (IntKind.u64.wrap (bt419.2+bt423.2)) (IntKind.u64.wrap ((IntKind.u64.wrap (bt419.1+bt423.1))+1))) else (r01_Hypot.j0 k (IntKind.u64.wrap (bt419.2+bt423.2)) (IntKind.u64.wrap (bt419.1+bt423.1)))))))))
theorem r01_Hypot.mono_l:∀ k,(∀ y0 y1,LeO (r01_Hypot.j0 k y0 y1) (r01_Hypot.j0 (k+1) y0 y1))∧(∀ y0 y1 y2 y3,LeO (r01_Hypot.l0 k y0 y1 y2 y3) (r01_Hypot.l0 (k+1) y0 y1 y2 y3))
 | 0=>⟨fun _ _ r h=>by simp [r01_Hypot.j0] at h,fun _ _ _ _ r h=>by simp [r01_Hypot.l0] at h⟩
 | k+1=>by
  obtain ⟨ih0,ih1⟩:=r01_Hypot.mono_l k;refine ⟨?_,?_⟩;intro y0 y1;unfold r01_Hypot.j0;rotate_left;intro y0 y1 y2 y3;unfold r01_Hypot.l0;rotate_left
  all_goals repeat' first
   | (with_reducible exact ih0 _ _)
   | (with_reducible exact ih1 _ _ _ _)
   | (with_reducible exact r01_signed.mono _ _ _ _)
   | (with_reducible exact LeO.refl _)
   | (with_reducible exact LeO.none _)
   | (with_reducible refine LeO.ite ?_ ?_)
   | (with_reducible refine LeO.bind ?_ (fun _=>?_))
theorem r01_Hypot.mono:∀ a0 a1 k,LeO (r01_Hypot.f k a0 a1) (r01_Hypot.f (k+1) a0 a1):=by
 intro a0 a1 k;obtain ⟨ih0,ih1⟩:=r01_Hypot.mono_l k
 unfold r01_Hypot.f
 repeat' first
   | (with_reducible exact ih0 _ _)
   | (with_reducible exact ih1 _ _ _ _)
   | (with_reducible exact r01_signed.mono _ _ _ _)
   | (with_reducible exact LeO.refl _)
   | (with_reducible exact LeO.none _)
   | (with_reducible refine LeO.ite ?_ ?_)
   | (with_reducible refine LeO.bind ?_ (fun _=>?_))
set_option maxHeartbeats 8000000 in
set_option maxRecDepth 100000 in
theorem r01_Hypot.calls (k:Nat) (a0:Int) (a1:Int) (r:Int) (w:World) (h:r01_Hypot.f k a0 a1=some r) :
  Calls Try.prog 51 #[.int .i64 a0,.int .i64 a1] w fun e w'=>e = .returned (.int .i64 r)∧Drawn0 w w':=by
 have H:((r01_Abs.f a0).bind fun t417=>((r01_Abs.f a0).bind fun t418=>((r01_Product.f t417 t418).bind fun bt419=>((r01_Abs.f a1).bind fun t421=>((r01_Abs.f a1).bind fun t422=>((r01_Product.f t421 t422).bind fun bt423=>(if (IntKind.u64.wrap (bt419.2+bt423.2))<bt419.2 then (r01_Hypot.j0 k (IntKind.u64.wrap (bt419.2+bt423.2)) (IntKind.u64.wrap ((IntKind.u64.wrap (bt419.1+bt423.1))+1))) else (r01_Hypot.j0 k (IntKind.u64.wrap (bt419.2+bt423.2)) (IntKind.u64.wrap (bt419.1+bt423.1))))))))))=some r:=h
 clear h;replace H:=Option.bind_eq_some_iff.mp H;obtain ⟨t417,A30,H⟩:=H
 replace H:((r01_Abs.f a0).bind fun t418=>((r01_Product.f t417 t418).bind fun bt419=>((r01_Abs.f a1).bind fun t421=>((r01_Abs.f a1).bind fun t422=>((r01_Product.f t421 t422).bind fun bt423=>(if (IntKind.u64.wrap (bt419.2+bt423.2))<bt419.2 then (r01_Hypot.j0 k (IntKind.u64.wrap (bt419.2+bt423.2)) (IntKind.u64.wrap ((IntKind.u64.wrap (bt419.1+bt423.1))+1))) else (r01_Hypot.j0 k (IntKind.u64.wrap (bt419.2+bt423.2)) (IntKind.u64.wrap (bt419.1+bt423.1)))))))))=some r:=H
 have A3:=Aside0.mk A30;clear A30;replace H:=Option.bind_eq_some_iff.mp H;obtain ⟨t418,A40,H⟩:=H
 replace H:((r01_Product.f t417 t418).bind fun bt419=>((r01_Abs.f a1).bind fun t421=>((r01_Abs.f a1).bind fun t422=>((r01_Product.f t421 t422).bind fun bt423=>(if (IntKind.u64.wrap (bt419.2+bt423.2))<bt419.2 then (r01_Hypot.j0 k (IntKind.u64.wrap (bt419.2+bt423.2)) (IntKind.u64.wrap ((IntKind.u64.wrap (bt419.1+bt423.1))+1))) else (r01_Hypot.j0 k (IntKind.u64.wrap (bt419.2+bt423.2)) (IntKind.u64.wrap (bt419.1+bt423.1))))))))=some r:=H
 have A4:=Aside0.mk A40;clear A40;replace H:=Option.bind_eq_some_iff.mp H;obtain ⟨⟨t419,t420⟩,A50,H⟩:=H
 replace H:((r01_Abs.f a1).bind fun t421=>((r01_Abs.f a1).bind fun t422=>((r01_Product.f t421 t422).bind fun bt423=>(if (IntKind.u64.wrap (t420+bt423.2))<t420 then (r01_Hypot.j0 k (IntKind.u64.wrap (t420+bt423.2)) (IntKind.u64.wrap ((IntKind.u64.wrap (t419+bt423.1))+1))) else (r01_Hypot.j0 k (IntKind.u64.wrap (t420+bt423.2)) (IntKind.u64.wrap (t419+bt423.1)))))))=some r:=H
 have A5:=Aside0.mk A50;clear A50;replace H:=Option.bind_eq_some_iff.mp H;obtain ⟨t421,A60,H⟩:=H
 replace H:((r01_Abs.f a1).bind fun t422=>((r01_Product.f t421 t422).bind fun bt423=>(if (IntKind.u64.wrap (t420+bt423.2))<t420 then (r01_Hypot.j0 k (IntKind.u64.wrap (t420+bt423.2)) (IntKind.u64.wrap ((IntKind.u64.wrap (t419+bt423.1))+1))) else (r01_Hypot.j0 k (IntKind.u64.wrap (t420+bt423.2)) (IntKind.u64.wrap (t419+bt423.1))))))=some r:=H
 have A6:=Aside0.mk A60;clear A60;replace H:=Option.bind_eq_some_iff.mp H;obtain ⟨t422,A70,H⟩:=H
 replace H:((r01_Product.f t421 t422).bind fun bt423=>(if (IntKind.u64.wrap (t420+bt423.2))<t420 then (r01_Hypot.j0 k (IntKind.u64.wrap (t420+bt423.2)) (IntKind.u64.wrap ((IntKind.u64.wrap (t419+bt423.1))+1))) else (r01_Hypot.j0 k (IntKind.u64.wrap (t420+bt423.2)) (IntKind.u64.wrap (t419+bt423.1)))))=some r:=H
 have A7:=Aside0.mk A70;clear A70;replace H:=Option.bind_eq_some_iff.mp H;obtain ⟨⟨t423,t424⟩,A80,H⟩:=H
 replace H:(if (IntKind.u64.wrap (t420+t424))<t420 then (r01_Hypot.j0 k (IntKind.u64.wrap (t420+t424)) (IntKind.u64.wrap ((IntKind.u64.wrap (t419+t423))+1))) else (r01_Hypot.j0 k (IntKind.u64.wrap (t420+t424)) (IntKind.u64.wrap (t419+t423))))=some r:=H
 have A8:=Aside0.mk A80;clear A80;have HC9:=Aside0.mk H;clear H
 go_enter Try.func51,Try.ntmps51
 go_upto_if 39 with (first|((with_reducible refine gate_callee (f:=50) rfl ?_);refine goesL_ (some 17) rfl rfl Try.func50 (by kernel_rfl) rfl #[.int .i64 a0] rfl (by (try simp only [mA_,mC_,mN_]);first|done|rfl|(simp only [dL_,kL_];rfl)) ?_;(with_reducible refine (r01_Abs.calls a0 t417 _ A3.out).mono ?_);rintro e w' ⟨rfl,⟨nd,rfl⟩⟩;refine ⟨_,rfl,?_⟩)|((with_reducible refine gate_callee (f:=50) rfl ?_);refine goesL_ (some 19) rfl rfl Try.func50 (by kernel_rfl) rfl #[.int .i64 a0] rfl (by (try simp only [mA_,mC_,mN_]);first|done|rfl|(simp only [dL_,kL_];rfl)) ?_;(with_reducible refine (r01_Abs.calls a0 t418 _ A4.out).mono ?_);rintro e w' ⟨rfl,⟨nd,rfl⟩⟩;refine ⟨_,rfl,?_⟩)|((with_reducible refine gate_callee (f:=61) rfl ?_);refine goesL_ (some 20) rfl rfl Try.func61 (by kernel_rfl) rfl #[.int .u64 t417,.int .u64 t418] rfl (by (try simp only [mA_,mC_,mN_]);first|done|rfl|(simp only [dL_,kL_];rfl)) ?_;(with_reducible refine (r01_Product.calls t417 t418 t419 t420 _ A5.out).mono ?_);rintro e w' ⟨rfl,⟨nd,rfl⟩⟩;refine ⟨_,rfl,?_⟩)|((with_reducible refine gate_callee (f:=50) rfl ?_);refine goesL_ (some 25) rfl rfl Try.func50 (by kernel_rfl) rfl #[.int .i64 a1] rfl (by (try simp only [mA_,mC_,mN_]);first|done|rfl|(simp only [dL_,kL_];rfl)) ?_;(with_reducible refine (r01_Abs.calls a1 t421 _ A6.out).mono ?_);rintro e w' ⟨rfl,⟨nd,rfl⟩⟩;refine ⟨_,rfl,?_⟩)|((with_reducible refine gate_callee (f:=50) rfl ?_);refine goesL_ (some 27) rfl rfl Try.func50 (by kernel_rfl) rfl #[.int .i64 a1] rfl (by (try simp only [mA_,mC_,mN_]);first|done|rfl|(simp only [dL_,kL_];rfl)) ?_;(with_reducible refine (r01_Abs.calls a1 t422 _ A7.out).mono ?_);rintro e w' ⟨rfl,⟨nd,rfl⟩⟩;refine ⟨_,rfl,?_⟩)|((with_reducible refine gate_callee (f:=61) rfl ?_);refine goesL_ (some 28) rfl rfl Try.func61 (by kernel_rfl) rfl #[.int .u64 t421,.int .u64 t422] rfl (by (try simp only [mA_,mC_,mN_]);first|done|rfl|(simp only [dL_,kL_];rfl)) ?_;(with_reducible refine (r01_Product.calls t421 t422 t423 t424 _ A8.out).mono ?_);rintro e w' ⟨rfl,⟨nd,rfl⟩⟩;refine ⟨_,rfl,?_⟩))
 (try simp only [Act.put,tS_,tZ_,tC_])
 go_cut [10] (fun v10 wc=>∃ (kq:Nat) (x10_8:Int),v10 = .int .u64 x10_8∧Aside0 (r01_Hypot.j0 kq (IntKind.u64.wrap (t420+t424)) x10_8=some r)∧Aside0 (kq≤k)∧Drawn0 w wc)
 case first =>
  have H:=HC9.out;clear HC9;by_cases c10:(IntKind.u64.wrap (t420+t424))<t420
  ·rw [if_pos c10] at H
   have c10b0:=decide_eq_true c10;clear c10
   (first|rw [c10b0]|(simp only [i64_w,i32_w];rw [c10b0])|skip)
   have H':=Aside0.mk H;clear H
   go_wp2
   go_meet
   case rel=>exact ⟨_,(IntKind.u64.wrap ((IntKind.u64.wrap (t419+t423))+1)),(by first|rfl|(simp;done)|(simp [*];done)),H',⟨by first|omega|exact Nat.le_refl _⟩,by repeat (first|exact Drawn0.refl _|apply Drawn0.step)⟩
  rw [if_neg c10] at H;have c10b0:=decide_eq_false c10;clear c10
  (first|rw [c10b0]|(simp only [i64_w,i32_w];rw [c10b0])|skip)
  have H':=Aside0.mk H;clear H
  go_wp2
  go_meet
  case rel=>exact ⟨_,(IntKind.u64.wrap (t419+t423)),(by first|rfl|(simp;done)|(simp [*];done)),H',⟨by first|omega|exact Nat.le_refl _⟩,by repeat (first|exact Drawn0.refl _|apply Drawn0.step)⟩
 case rest =>
  clear HC9;obtain ⟨kq,x10_8,rfl,HA,HJ8,⟨mc8,rfl⟩⟩:=hcut
  cases kq with
  | zero=>exact absurd HA.out (by simp [r01_Hypot.j0])
  | succ kj8 =>
   have H:=HA.out;clear HA;simp only [r01_Hypot.j0] at H;have H':=Aside0.mk H;clear H
   go_wp2
   go_loopg [11,12] kj8 (fun kq v11 v12 w'=>∃ (x11_2:Int) (x12_2:Int),v11 = .int .u64 x11_2∧v12 = .int .u64 x12_2∧Aside0 (r01_Hypot.l0 kq (IntKind.u64.wrap (t420+t424)) x10_8 x11_2 x12_2=some r)∧Aside0 (kq≤kj8)∧Drawn0 w w')
   case atStart=>exact ⟨(0),(9223372036854775808),(by first|rfl|(simp;done)|(simp [*];done)),(by first|rfl|(simp;done)|(simp [*];done)),H',⟨Nat.le_refl _⟩,by repeat (first|exact Drawn0.refl _|apply Drawn0.step)⟩
   case round =>
    clear H';obtain ⟨x11_2,x12_2,rfl,rfl,HA,HK2,⟨m2,rfl⟩⟩:=hrel
    cases gk with
    | zero=>exact absurd HA.out (by simp [r01_Hypot.l0])
    | succ k2 =>
     have H:=HA.out;clear HA;simp only [r01_Hypot.l0] at H;by_cases c11:x12_2>0
     ·rw [if_pos c11] at H
      have c11b0:=decide_eq_true c11;clear c11;replace H:=Option.bind_eq_some_iff.mp H;obtain ⟨⟨t425,t426⟩,A120,H⟩:=H
      replace H:(if t425<x10_8 then (r01_Hypot.l0 k2 (IntKind.u64.wrap (t420+t424)) x10_8 (Go.bits .or .u64 x11_2 x12_2) (x12_2 / 2)) else (if t425=x10_8 then (if t426≤(IntKind.u64.wrap (t420+t424)) then (r01_Hypot.l0 k2 (IntKind.u64.wrap (t420+t424)) x10_8 (Go.bits .or .u64 x11_2 x12_2) (x12_2 / 2)) else (r01_Hypot.l0 k2 (IntKind.u64.wrap (t420+t424)) x10_8 x11_2 (x12_2 / 2))) else (r01_Hypot.l0 k2 (IntKind.u64.wrap (t420+t424)) x10_8 x11_2 (x12_2 / 2))))=some r:=H
      have A12:=Aside0.mk A120;clear A120;by_cases c13:t425<x10_8
      ·rw [if_pos c13] at H
       have c13b0:=decide_eq_true c13;clear c13;have H':=Aside0.mk H;clear H
       go_wp2_with (first|((with_reducible refine gate_callee (f:=61) rfl ?_);refine goesL_ (some 53) rfl rfl Try.func61 (by kernel_rfl) rfl #[.int .u64 (Go.bits .or .u64 x11_2 x12_2),.int .u64 (Go.bits .or .u64 x11_2 x12_2)] rfl (by (try simp only [mA_,mC_,mN_]);first|done|rfl|(simp only [dL_,kL_];rfl)) ?_;(with_reducible refine (r01_Product.calls (Go.bits .or .u64 x11_2 x12_2) (Go.bits .or .u64 x11_2 x12_2) t425 t426 _ A12.out).mono ?_);rintro e w' ⟨rfl,⟨nd,rfl⟩⟩;refine ⟨_,rfl,?_⟩))
       go_roundg k2
       case measure=>have:=HJ8.out;have:=HK2.out;omega
       case rel=>exact ⟨(Go.bits .or .u64 x11_2 x12_2),(x12_2 / 2),(by first|rfl|(simp;done)|(simp [*];done)),(by first|rfl|(simp;done)|(simp [*];done)),H',⟨by have:=HJ8.out;have:=HK2.out;omega⟩,by repeat (first|exact Drawn0.refl _|apply Drawn0.step)⟩
      rw [if_neg c13] at H;have c13b0:=decide_eq_false c13;clear c13;by_cases c14:t425=x10_8
      ·rw [if_pos c14] at H
       have c14b0:=beq_iff_eq.mpr c14;have c14b1:=bne_eq_false_iff_eq.mpr c14;clear c14;by_cases c15:t426≤(IntKind.u64.wrap (t420+t424))
       ·rw [if_pos c15] at H
        have c15b0:=decide_eq_true c15;clear c15;have H':=Aside0.mk H;clear H
        go_wp2_with (first|((with_reducible refine gate_callee (f:=61) rfl ?_);refine goesL_ (some 53) rfl rfl Try.func61 (by kernel_rfl) rfl #[.int .u64 (Go.bits .or .u64 x11_2 x12_2),.int .u64 (Go.bits .or .u64 x11_2 x12_2)] rfl (by (try simp only [mA_,mC_,mN_]);first|done|rfl|(simp only [dL_,kL_];rfl)) ?_;(with_reducible refine (r01_Product.calls (Go.bits .or .u64 x11_2 x12_2) (Go.bits .or .u64 x11_2 x12_2) t425 t426 _ A12.out).mono ?_);rintro e w' ⟨rfl,⟨nd,rfl⟩⟩;refine ⟨_,rfl,?_⟩))
        go_roundg k2
        case measure=>have:=HJ8.out;have:=HK2.out;omega
        case rel=>exact ⟨(Go.bits .or .u64 x11_2 x12_2),(x12_2 / 2),(by first|rfl|(simp;done)|(simp [*];done)),(by first|rfl|(simp;done)|(simp [*];done)),H',⟨by have:=HJ8.out;have:=HK2.out;omega⟩,by repeat (first|exact Drawn0.refl _|apply Drawn0.step)⟩
       rw [if_neg c15] at H;have c15b0:=decide_eq_false c15;clear c15;have H':=Aside0.mk H;clear H
       go_wp2_with (first|((with_reducible refine gate_callee (f:=61) rfl ?_);refine goesL_ (some 53) rfl rfl Try.func61 (by kernel_rfl) rfl #[.int .u64 (Go.bits .or .u64 x11_2 x12_2),.int .u64 (Go.bits .or .u64 x11_2 x12_2)] rfl (by (try simp only [mA_,mC_,mN_]);first|done|rfl|(simp only [dL_,kL_];rfl)) ?_;(with_reducible refine (r01_Product.calls (Go.bits .or .u64 x11_2 x12_2) (Go.bits .or .u64 x11_2 x12_2) t425 t426 _ A12.out).mono ?_);rintro e w' ⟨rfl,⟨nd,rfl⟩⟩;refine ⟨_,rfl,?_⟩))
       go_roundg k2
       case measure=>have:=HJ8.out;have:=HK2.out;omega
       case rel=>exact ⟨(x11_2),(x12_2 / 2),(by first|rfl|(simp;done)|(simp [*];done)),(by first|rfl|(simp;done)|(simp [*];done)),H',⟨by have:=HJ8.out;have:=HK2.out;omega⟩,by repeat (first|exact Drawn0.refl _|apply Drawn0.step)⟩
      rw [if_neg c14] at H;have c14b0:(t425==x10_8)=false:=beq_eq_false_iff_ne.mpr c14;have c14b1:(t425 != x10_8)=true:=bne_iff_ne.mpr c14;have H':=Aside0.mk H;clear H
      go_wp2_with (first|((with_reducible refine gate_callee (f:=61) rfl ?_);refine goesL_ (some 53) rfl rfl Try.func61 (by kernel_rfl) rfl #[.int .u64 (Go.bits .or .u64 x11_2 x12_2),.int .u64 (Go.bits .or .u64 x11_2 x12_2)] rfl (by (try simp only [mA_,mC_,mN_]);first|done|rfl|(simp only [dL_,kL_];rfl)) ?_;(with_reducible refine (r01_Product.calls (Go.bits .or .u64 x11_2 x12_2) (Go.bits .or .u64 x11_2 x12_2) t425 t426 _ A12.out).mono ?_);rintro e w' ⟨rfl,⟨nd,rfl⟩⟩;refine ⟨_,rfl,?_⟩))
      go_roundg k2
      case measure=>have:=HJ8.out;have:=HK2.out;omega
      case rel=>exact ⟨(x11_2),(x12_2 / 2),(by first|rfl|(simp;done)|(simp [*];done)),(by first|rfl|(simp;done)|(simp [*];done)),H',⟨by have:=HJ8.out;have:=HK2.out;omega⟩,by repeat (first|exact Drawn0.refl _|apply Drawn0.step)⟩
     rw [if_neg c11] at H;have c11b0:=decide_eq_false c11;clear c11;replace H:=Option.bind_eq_some_iff.mp H;obtain ⟨t427,A160,H⟩:=H;replace H:(some t427)=some r:=H;have A16:=Aside0.mk A160;clear A160;obtain rfl:=Option.some.inj H
     go_wp2_with (first|((with_reducible refine gate_callee (f:=62) rfl ?_);refine goesL_ (some 73) rfl rfl Try.func62 (by kernel_rfl) rfl #[.int .u64 0,.int .u64 x11_2,.bool false] rfl (by (try simp only [mA_,mC_,mN_]);first|done|rfl|(simp only [dL_,kL_];rfl)) ?_;(with_reducible refine (r01_signed.calls k2 0 x11_2 false t427 _ A16.out).mono ?_);rintro e w' ⟨rfl,⟨nd,rfl⟩⟩;refine ⟨_,rfl,?_⟩))
     go_ret
     exact ⟨by first|rfl|(simp;done)|(simp [*];done),by repeat (first|exact Drawn0.refl _|apply Drawn0.step)⟩

/-! ### r18_abs: function 53 -/
def r18_abs.f (a0:Int):Option (Int):=if a0<0 then (some (wrap64 (-a0))) else (some a0)
set_option maxHeartbeats 8000000 in
set_option maxRecDepth 100000 in
theorem r18_abs.calls (a0:Int) (r:Int) (w:World) (h:r18_abs.f a0=some r) :
  Calls Try.prog 53 #[.int .i64 a0] w fun e w'=>e = .returned (.int .i64 r)∧Drawn0 w w':=by
 have H:(if a0<0 then (some (wrap64 (-a0))) else (some a0))=some r:=h
 clear h;by_cases c2:a0<0
 ·rw [if_pos c2] at H
  have c2b0:=decide_eq_true c2;clear c2;obtain rfl:=Option.some.inj H
  go_enter Try.func53,Try.ntmps53
  go_wp2
  go_ret
  exact ⟨by first|rfl|(simp;done)|(simp [*];done),by repeat (first|exact Drawn0.refl _|apply Drawn0.step)⟩
 rw [if_neg c2] at H;have c2b0:=decide_eq_false c2;clear c2;obtain rfl:=Option.some.inj H
 go_enter Try.func53,Try.ntmps53
 go_wp2
 go_ret
 exact ⟨by first|rfl|(simp;done)|(simp [*];done),by repeat (first|exact Drawn0.refl _|apply Drawn0.step)⟩

/-! ### r18_eighth: function 63 -/
def r18_eighth.f (k:Nat) (a0:Int):Option (Int):=(r01_Div.f k (wrap64 (a0*(wrap64 (536870912+(wrap64 (2848*(wrap64 (65536-a0)))))))) 4294967296).bind fun t428=>(some t428)
theorem r18_eighth.mono:∀ a0 k,LeO (r18_eighth.f k a0) (r18_eighth.f (k+1) a0):=by
 intro a0 k
 unfold r18_eighth.f
 repeat' first
   | (with_reducible exact r01_Div.mono _ _ _)
   | (with_reducible exact LeO.refl _)
   | (with_reducible exact LeO.none _)
   | (with_reducible refine LeO.ite ?_ ?_)
   | (with_reducible refine LeO.bind ?_ (fun _=>?_))
set_option maxHeartbeats 8000000 in
set_option maxRecDepth 100000 in
theorem r18_eighth.calls (k:Nat) (a0:Int) (r:Int) (w:World) (h:r18_eighth.f k a0=some r) :
  Calls Try.prog 63 #[.int .i64 a0] w fun e w'=>e = .returned (.int .i64 r)∧Drawn0 w w':=by
 have H:((r01_Div.f k (wrap64 (a0*(wrap64 (536870912+(wrap64 (2848*(wrap64 (65536-a0)))))))) 4294967296).bind fun t428=>(some t428))=some r:=h
 clear h;replace H:=Option.bind_eq_some_iff.mp H;obtain ⟨t428,A20,H⟩:=H;replace H:(some t428)=some r:=H;have A2:=Aside0.mk A20;clear A20;obtain rfl:=Option.some.inj H
 go_enter Try.func63,Try.ntmps63
 go_wp2_with (first|((with_reducible refine gate_callee (f:=34) rfl ?_);refine goesL_ (some 9) rfl rfl Try.func34 (by kernel_rfl) rfl #[.int .i64 (wrap64 (a0*(wrap64 (536870912+(wrap64 (2848*(wrap64 (65536-a0)))))))),.int .i64 4294967296] rfl (by (try simp only [mA_,mC_,mN_]);first|done|rfl|(simp only [dL_,kL_];rfl)) ?_;(with_reducible refine (r01_Div.calls k (wrap64 (a0*(wrap64 (536870912+(wrap64 (2848*(wrap64 (65536-a0)))))))) 4294967296 t428 _ A2.out).mono ?_);rintro e w' ⟨rfl,⟨nd,rfl⟩⟩;refine ⟨_,rfl,?_⟩))
 go_ret
 exact ⟨by first|rfl|(simp;done)|(simp [*];done),by repeat (first|exact Drawn0.refl _|apply Drawn0.step)⟩

end Go.Proofs.Ytmlcobnidfkhfaa.Q
