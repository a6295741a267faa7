/- Each Go function of the law as a Lean function, with the proof that its call comes to just that, for every input; written by hp.py, a program of this session over the kit own print of the translation. -/
import Derived.Test.YtmlcobnidfkhfaaQ0
import Derived.Test.YtmlcobnidfkhfaaQ4
namespace Go.Proofs.Ytmlcobnidfkhfaa.Q
open Go.RowKit Go.Proofs.YtmlcobnidfkhfaaW.PrintWords Go.Proofs.YtmlcobnidfkhfaaW.PrintLast Go.Proofs.YtmlcobnidfkhfaaW.PrintMore
attribute [local go_sem] max2_int min2_int max_two min_two max_three min_three max_four min_four   -- for this text's walks alone
set_option linter.unusedVariables false
set_option linter.unusedSimpArgs false
open Go.Proofs.Ytmlcobnidfkhfaa.Clo Go.Proofs.Ytmlcobnidfkhfaa.Mk0

/-! ### gr_angle: function 54 -/
mutual
def gr_angle.j1:Nat→Int→Int→Int→Option (Int)
 | 0,_,_,_=>none
 | k+1,x0,x1,x7=>if x0≥0 then (gr_angle.j2 k x0 x1 x7 (decide (x1≥0))) else (gr_angle.j2 k x0 x1 x7 false)
def gr_angle.j2:Nat→Int→Int→Int→Bool→Option (Int)
 | 0,_,_,_,_=>none
 | k+1,x0,x1,x7,x34=>if x34=true then (some x7) else (if x0<0 then (gr_angle.j3 k x0 x7 (decide (x1≥0))) else (gr_angle.j3 k x0 x7 false))
def gr_angle.j3:Nat→Int→Int→Bool→Option (Int)
 | 0,_,_,_=>none
 | k+1,x0,x7,x42=>if x42=true then (some (wrap64 (32768-x7))) else (if x0<0 then (some (wrap64 (32768+x7))) else (some (Int.tmod (wrap64 (65536-x7)) 65536)))
def gr_angle.j0:Nat→Int→Int→Int→Int→Int→Bool→Option (Int)
 | 0,_,_,_,_,_,_=>none
 | k+1,x0,x1,x5,x6,x7,x18=>if x18=true then (gr_angle.j1 k x0 x1 x7) else (if x5≥x6 then ((num_Div.f k (wrap64 (x6*65536)) x5).bind fun t137=>((gr_eighth.f k t137).bind fun t138=>(gr_angle.j1 k x0 x1 t138))) else ((num_Div.f k (wrap64 (x5*65536)) x6).bind fun t139=>((gr_eighth.f k t139).bind fun t140=>(gr_angle.j1 k x0 x1 (wrap64 (16384-t140))))))
end
def gr_angle.f (k:Nat) (a0:Int) (a1:Int):Option (Int):=(gr_abs.f a0).bind fun t135=>((gr_abs.f a1).bind fun t136=>(if t135=0 then (gr_angle.j0 k a0 a1 t135 t136 0 (t136==0)) else (gr_angle.j0 k a0 a1 t135 t136 0 false)))
theorem gr_angle.mono_l:∀ k,(∀ y0 y1 y2,LeO (gr_angle.j1 k y0 y1 y2) (gr_angle.j1 (k+1) y0 y1 y2))∧(∀ y0 y1 y2 y3,LeO (gr_angle.j2 k y0 y1 y2 y3) (gr_angle.j2 (k+1) y0 y1 y2 y3))∧(∀ y0 y1 y2,LeO (gr_angle.j3 k y0 y1 y2) (gr_angle.j3 (k+1) y0 y1 y2))∧(∀ y0 y1 y2 y3 y4 y5,LeO (gr_angle.j0 k y0 y1 y2 y3 y4 y5) (gr_angle.j0 (k+1) y0 y1 y2 y3 y4 y5))
 | 0=>⟨fun _ _ _ r h=>by simp [gr_angle.j1] at h,fun _ _ _ _ r h=>by simp [gr_angle.j2] at h,fun _ _ _ r h=>by simp [gr_angle.j3] at h,fun _ _ _ _ _ _ r h=>by simp [gr_angle.j0] at h⟩
 | k+1=>by
  obtain ⟨ih0,ih1,ih2,ih3⟩:=gr_angle.mono_l k;refine ⟨?_,?_,?_,?_⟩;intro y0 y1 y2;unfold gr_angle.j1;rotate_left;intro y0 y1 y2 y3;unfold gr_angle.j2;rotate_left;intro y0 y1 y2;unfold gr_angle.j3;rotate_left;intro y0 y1 y2 y3 y4 y5;unfold gr_angle.j0;rotate_left
  all_goals repeat' first
   | (with_reducible exact ih0 _ _ _)
   | (with_reducible exact ih1 _ _ _ _)
   | (with_reducible exact ih2 _ _ _)
   | (with_reducible exact ih3 _ _ _ _ _ _)
   | (with_reducible exact gr_eighth.mono _ _)
   | (with_reducible exact num_Div.mono _ _ _)
   | (with_reducible exact LeO.refl _)
   | (with_reducible exact LeO.none _)
   | (with_reducible refine LeO.ite ?_ ?_)
   | (with_reducible refine LeO.bind ?_ (fun _=>?_))
theorem gr_angle.mono:∀ a0 a1 k,LeO (gr_angle.f k a0 a1) (gr_angle.f (k+1) a0 a1):=by
 intro a0 a1 k;obtain ⟨ih0,ih1,ih2,ih3⟩:=gr_angle.mono_l k
 unfold gr_angle.f
 repeat' first
   | (with_reducible exact ih0 _ _ _)
   | (with_reducible exact ih1 _ _ _ _)
   | (with_reducible exact ih2 _ _ _)
   | (with_reducible exact ih3 _ _ _ _ _ _)
   | (with_reducible exact gr_eighth.mono _ _)
   | (with_reducible exact num_Div.mono _ _ _)
   | (with_reducible exact LeO.refl _)
   | (with_reducible exact LeO.none _)
   | (with_reducible refine LeO.ite ?_ ?_)
   | (with_reducible refine LeO.bind ?_ (fun _=>?_))
set_option maxHeartbeats 8000000 in
set_option maxRecDepth 100000 in
theorem gr_angle.calls (k:Nat) (a0:Int) (a1:Int) (r:Int) (w:World) (h:gr_angle.f k a0 a1=some r) :
  Calls Try.prog 54 #[.int .i64 a0,.int .i64 a1] w fun e w'=>e = .returned (.int .i64 r)∧Below w.heap.size w w':=by
 have HB:=Aside0.mk (Below.refl w.heap.size w)
 have H:((gr_abs.f a0).bind fun t135=>((gr_abs.f a1).bind fun t136=>(if t135=0 then (gr_angle.j0 k a0 a1 t135 t136 0 (t136==0)) else (gr_angle.j0 k a0 a1 t135 t136 0 false))))=some r:=h
 clear h;replace H:=Option.bind_eq_some_iff.mp H;obtain ⟨t135,A30,H⟩:=H
 replace H:((gr_abs.f a1).bind fun t136=>(if t135=0 then (gr_angle.j0 k a0 a1 t135 t136 0 (t136==0)) else (gr_angle.j0 k a0 a1 t135 t136 0 false)))=some r:=H
 have A3:=Aside0.mk A30;clear A30;replace H:=Option.bind_eq_some_iff.mp H;obtain ⟨t136,A40,H⟩:=H
 replace H:(if t135=0 then (gr_angle.j0 k a0 a1 t135 t136 0 (t136==0)) else (gr_angle.j0 k a0 a1 t135 t136 0 false))=some r:=H
 have A4:=Aside0.mk A40;clear A40;have HC5:=Aside0.mk H;clear H
 go_enter Try.func54,Try.ntmps54
 go_upto_block 0 with (first|((with_reducible refine gate_callee (f:=55) rfl ?_);refine goesL_ (some 9) rfl rfl Try.func55 (by kernel_rfl) rfl #[.int .i64 a0] rfl (by (try simp only [mA_,mC_,mN_]);first|done|rfl|(simp only [dL_,kL_];rfl)) ?_;(with_reducible refine (gr_abs.calls a0 t135 _ A3.out).mono ?_);rintro e w6 ⟨rfl,hb⟩;refine ⟨_,rfl,?_⟩;have n0_:=Aside0.mk (below_step (by repeat first|(with_reducible first|exact HB.out|apply lA_|apply lN_|apply lD_)|exact HB.out) hb);clear HB;have HB:=n0_;clear n0_;(try clear hb);(try clear hb2);(try clear hk);(try clear hi))|((with_reducible refine gate_callee (f:=55) rfl ?_);refine goesL_ (some 11) rfl rfl Try.func55 (by kernel_rfl) rfl #[.int .i64 a1] rfl (by (try simp only [mA_,mC_,mN_]);first|done|rfl|(simp only [dL_,kL_];rfl)) ?_;(with_reducible refine (gr_abs.calls a1 t136 _ A4.out).mono ?_);rintro e w7 ⟨rfl,hb⟩;refine ⟨_,rfl,?_⟩;have n0_:=Aside0.mk (below_step (by repeat first|(with_reducible first|exact HB.out|apply lA_|apply lN_|apply lD_)|exact HB.out) hb);clear HB;have HB:=n0_;clear n0_;(try clear hb);(try clear hb2);(try clear hk);(try clear hi)))
 (try simp only [Act.put,tS_,tZ_,tC_])
 go_cut [7] (fun v7 wc=>∃ (kq:Nat) (x7_4:Int),v7 = .int .i64 x7_4∧Aside0 (gr_angle.j1 kq a0 a1 x7_4=some r)∧Aside0 (kq≤k)∧Aside0 (Below w.heap.size w wc))
 case first =>
  have H:=HC5.out;clear HC5;have HC8:=Aside0.mk H;clear H
  go_upto_region 4 with (fail)
  go_cut [18] (fun v18 wc=>∃ (kq:Nat) (x18_7:Bool),v18 = .bool x18_7∧Aside0 (gr_angle.j0 kq a0 a1 t135 t136 0 x18_7=some r)∧Aside0 (kq≤k)∧Aside0 (Below w.heap.size w wc))
  case first =>
   have H:=HC8.out;clear HC8;by_cases c9:t135=0
   ·rw [if_pos c9] at H
    have c9b0:=beq_iff_eq.mpr c9;have c9b1:=bne_eq_false_iff_eq.mpr c9;clear c9
    (first|rw [c9b0]|(simp only [i64_w,i32_w];rw [c9b0])|skip)
    have H':=Aside0.mk H;clear H
    go_wp2
    go_meet
    case rel=>exact ⟨_,((t136==0)),(by first|rfl|(simp;done)|(simp [*];done)),H',⟨by first|omega|exact Nat.le_refl _⟩,⟨by repeat first|(with_reducible first|exact HB.out|apply lA_|apply lN_|apply lD_)|exact HB.out⟩⟩
   rw [if_neg c9] at H;have c9b0:(t135==0)=false:=beq_eq_false_iff_ne.mpr c9;have c9b1:(t135 != 0)=true:=bne_iff_ne.mpr c9
   (first|rw [c9b0]|(simp only [i64_w,i32_w];rw [c9b0])|skip)
   have H':=Aside0.mk H;clear H
   go_wp2
   go_meet
   case rel=>exact ⟨_,(false),(by first|rfl|(simp;done)|(simp [*];done)),H',⟨by first|omega|exact Nat.le_refl _⟩,⟨by repeat first|(with_reducible first|exact HB.out|apply lA_|apply lN_|apply lD_)|exact HB.out⟩⟩
  case rest =>
   clear HC8;obtain ⟨kq,x18_7,rfl,HA,HJ7,HB⟩:=hcut
   cases kq with
   | zero=>exact absurd HA.out (by simp [gr_angle.j0])
   | succ kj7 =>
    have H:=HA.out;clear HA;simp only [gr_angle.j0] at H;by_cases c10:x18_7=true
    ·subst c10
     have H1:(gr_angle.j1 kj7 a0 a1 0)=some r:=by rw [if_pos rfl] at H;exact H
     clear H;have H:=H1;clear H1;have H':=Aside0.mk H;clear H
     go_wp2
     go_meet
     case rel=>exact ⟨_,(0),(by first|rfl|(simp;done)|(simp [*];done)),H',⟨by have:=HJ7.out;first|omega|exact Nat.le_refl _⟩,⟨by repeat first|(with_reducible first|exact HB.out|apply lA_|apply lN_|apply lD_)|exact HB.out⟩⟩
    replace c10:=Bool.eq_false_iff.mpr c10;subst c10
    have H1:(if t135≥t136 then ((num_Div.f kj7 (wrap64 (t136*65536)) t135).bind fun t137=>((gr_eighth.f kj7 t137).bind fun t138=>(gr_angle.j1 kj7 a0 a1 t138))) else ((num_Div.f kj7 (wrap64 (t135*65536)) t136).bind fun t139=>((gr_eighth.f kj7 t139).bind fun t140=>(gr_angle.j1 kj7 a0 a1 (wrap64 (16384-t140))))))=some r:=by rw [if_neg (show ¬ (false=true) by decide)] at H;exact H
    clear H;have H:=H1;clear H1;by_cases c11:t135≥t136
    ·rw [if_pos c11] at H
     have c11b0:=decide_eq_true c11;clear c11;replace H:=Option.bind_eq_some_iff.mp H;obtain ⟨t137,A120,H⟩:=H
     replace H:((gr_eighth.f kj7 t137).bind fun t138=>(gr_angle.j1 kj7 a0 a1 t138))=some r:=H
     have A12:=Aside0.mk A120;clear A120;replace H:=Option.bind_eq_some_iff.mp H;obtain ⟨t138,A130,H⟩:=H;replace H:(gr_angle.j1 kj7 a0 a1 t138)=some r:=H;have A13:=Aside0.mk A130;clear A130;have H':=Aside0.mk H;clear H
     go_wp2_with (first|((with_reducible refine gate_callee (f:=46) rfl ?_);refine goesL_ (some 32) rfl rfl Try.func46 (by kernel_rfl) rfl #[.int .i64 (wrap64 (t136*65536)),.int .i64 t135] rfl (by (try simp only [mA_,mC_,mN_]);first|done|rfl|(simp only [dL_,kL_];rfl)) ?_;(with_reducible refine (num_Div.calls kj7 (wrap64 (t136*65536)) t135 t137 _ A12.out).mono ?_);rintro e w' ⟨rfl,⟨nd,rfl⟩⟩;refine ⟨_,rfl,?_⟩)|((with_reducible refine gate_callee (f:=64) rfl ?_);refine goesL_ (some 33) rfl rfl Try.func64 (by kernel_rfl) rfl #[.int .i64 t137] rfl (by (try simp only [mA_,mC_,mN_]);first|done|rfl|(simp only [dL_,kL_];rfl)) ?_;(with_reducible refine (gr_eighth.calls kj7 t137 t138 _ A13.out).mono ?_);rintro e w' ⟨rfl,⟨nd,rfl⟩⟩;refine ⟨_,rfl,?_⟩))
     go_meet
     case rel=>exact ⟨_,(t138),(by first|rfl|(simp;done)|(simp [*];done)),H',⟨by have:=HJ7.out;first|omega|exact Nat.le_refl _⟩,⟨by repeat first|(with_reducible first|exact HB.out|apply lA_|apply lN_|apply lD_)|exact HB.out⟩⟩
    rw [if_neg c11] at H;have c11b0:=decide_eq_false c11;clear c11;replace H:=Option.bind_eq_some_iff.mp H;obtain ⟨t139,A140,H⟩:=H
    replace H:((gr_eighth.f kj7 t139).bind fun t140=>(gr_angle.j1 kj7 a0 a1 (wrap64 (16384-t140))))=some r:=H
    have A14:=Aside0.mk A140;clear A140;replace H:=Option.bind_eq_some_iff.mp H;obtain ⟨t140,A150,H⟩:=H;replace H:(gr_angle.j1 kj7 a0 a1 (wrap64 (16384-t140)))=some r:=H;have A15:=Aside0.mk A150;clear A150;have H':=Aside0.mk H;clear H
    go_wp2_with (first|((with_reducible refine gate_callee (f:=46) rfl ?_);refine goesL_ (some 15) rfl rfl Try.func46 (by kernel_rfl) rfl #[.int .i64 (wrap64 (t135*65536)),.int .i64 t136] rfl (by (try simp only [mA_,mC_,mN_]);first|done|rfl|(simp only [dL_,kL_];rfl)) ?_;(with_reducible refine (num_Div.calls kj7 (wrap64 (t135*65536)) t136 t139 _ A14.out).mono ?_);rintro e w' ⟨rfl,⟨nd,rfl⟩⟩;refine ⟨_,rfl,?_⟩)|((with_reducible refine gate_callee (f:=64) rfl ?_);refine goesL_ (some 16) rfl rfl Try.func64 (by kernel_rfl) rfl #[.int .i64 t139] rfl (by (try simp only [mA_,mC_,mN_]);first|done|rfl|(simp only [dL_,kL_];rfl)) ?_;(with_reducible refine (gr_eighth.calls kj7 t139 t140 _ A15.out).mono ?_);rintro e w' ⟨rfl,⟨nd,rfl⟩⟩;refine ⟨_,rfl,?_⟩))
    go_meet
    case rel=>exact ⟨_,(wrap64 (16384-t140)),(by first|rfl|(simp;done)|(simp [*];done)),H',⟨by have:=HJ7.out;first|omega|exact Nat.le_refl _⟩,⟨by repeat first|(with_reducible first|exact HB.out|apply lA_|apply lN_|apply lD_)|exact HB.out⟩⟩
 case rest =>
  clear HC5;obtain ⟨kq,x7_4,rfl,HA,HJ4,HB⟩:=hcut
  cases kq with
  | zero=>exact absurd HA.out (by simp [gr_angle.j1])
  | succ kj4 =>
   have H:=HA.out;clear HA;simp only [gr_angle.j1] at H;have HC16:=Aside0.mk H;clear H
   go_upto_region 7 with (fail)
   go_cut [34] (fun v34 wc=>∃ (kq:Nat) (x34_15:Bool),v34 = .bool x34_15∧Aside0 (gr_angle.j2 kq a0 a1 x7_4 x34_15=some r)∧Aside0 (kq≤kj4)∧Aside0 (Below w.heap.size w wc))
   case first =>
    have H:=HC16.out;clear HC16;by_cases c17:a0≥0
    ·rw [if_pos c17] at H
     have c17b0:=decide_eq_true c17;clear c17
     (first|rw [c17b0]|(simp only [i64_w,i32_w];rw [c17b0])|skip)
     have H':=Aside0.mk H;clear H
     go_wp2
     go_meet
     case rel=>exact ⟨_,(decide (a1≥0)),(by first|rfl|(simp;done)|(simp [*];done)),H',⟨by have:=HJ4.out;first|omega|exact Nat.le_refl _⟩,⟨by repeat first|(with_reducible first|exact HB.out|apply lA_|apply lN_|apply lD_)|exact HB.out⟩⟩
    rw [if_neg c17] at H;have c17b0:=decide_eq_false c17;clear c17
    (first|rw [c17b0]|(simp only [i64_w,i32_w];rw [c17b0])|skip)
    have H':=Aside0.mk H;clear H
    go_wp2
    go_meet
    case rel=>exact ⟨_,(false),(by first|rfl|(simp;done)|(simp [*];done)),H',⟨by have:=HJ4.out;first|omega|exact Nat.le_refl _⟩,⟨by repeat first|(with_reducible first|exact HB.out|apply lA_|apply lN_|apply lD_)|exact HB.out⟩⟩
   case rest =>
    clear HC16;obtain ⟨kq,x34_15,rfl,HA,HJ15,HB⟩:=hcut
    cases kq with
    | zero=>exact absurd HA.out (by simp [gr_angle.j2])
    | succ kj15 =>
     have H:=HA.out;clear HA;simp only [gr_angle.j2] at H;by_cases c18:x34_15=true
     ·subst c18
      have H1:(some x7_4)=some r:=by rw [if_pos rfl] at H;exact H
      clear H;have H:=H1;clear H1;obtain rfl:=Option.some.inj H
      go_wp2
      go_ret
      exact ⟨by first|rfl|(simp [errW_none,errW_some] <;> rfl)|(simp [*,errW_none,errW_some] <;> rfl),by repeat first|(with_reducible first|exact HB.out|apply lA_|apply lN_|apply lD_)|exact HB.out⟩
     replace c18:=Bool.eq_false_iff.mpr c18;subst c18
     have H1:(if a0<0 then (gr_angle.j3 kj15 a0 x7_4 (decide (a1≥0))) else (gr_angle.j3 kj15 a0 x7_4 false))=some r:=by rw [if_neg (show ¬ (false=true) by decide)] at H;exact H
     clear H;have H:=H1;clear H1;have HC19:=Aside0.mk H;clear H
     go_upto_region 9 with (fail)
     go_cut [42] (fun v42 wc=>∃ (kq:Nat) (x42_18:Bool),v42 = .bool x42_18∧Aside0 (gr_angle.j3 kq a0 x7_4 x42_18=some r)∧Aside0 (kq≤kj15)∧Aside0 (Below w.heap.size w wc))
     case first =>
      have H:=HC19.out;clear HC19;by_cases c20:a0<0
      ·rw [if_pos c20] at H
       have c20b0:=decide_eq_true c20;clear c20
       (first|rw [c20b0]|(simp only [i64_w,i32_w];rw [c20b0])|skip)
       have H':=Aside0.mk H;clear H
       go_wp2
       go_meet
       case rel=>exact ⟨_,(decide (a1≥0)),(by first|rfl|(simp;done)|(simp [*];done)),H',⟨by have:=HJ4.out;have:=HJ15.out;first|omega|exact Nat.le_refl _⟩,⟨by repeat first|(with_reducible first|exact HB.out|apply lA_|apply lN_|apply lD_)|exact HB.out⟩⟩
      rw [if_neg c20] at H;have c20b0:=decide_eq_false c20;clear c20
      (first|rw [c20b0]|(simp only [i64_w,i32_w];rw [c20b0])|skip)
      have H':=Aside0.mk H;clear H
      go_wp2
      go_meet
      case rel=>exact ⟨_,(false),(by first|rfl|(simp;done)|(simp [*];done)),H',⟨by have:=HJ4.out;have:=HJ15.out;first|omega|exact Nat.le_refl _⟩,⟨by repeat first|(with_reducible first|exact HB.out|apply lA_|apply lN_|apply lD_)|exact HB.out⟩⟩
     case rest =>
      clear HC19;obtain ⟨kq,x42_18,rfl,HA,HJ18,HB⟩:=hcut
      cases kq with
      | zero=>exact absurd HA.out (by simp [gr_angle.j3])
      | succ kj18 =>
       have H:=HA.out;clear HA;simp only [gr_angle.j3] at H;by_cases c21:x42_18=true
       ·subst c21
        have H1:(some (wrap64 (32768-x7_4)))=some r:=by rw [if_pos rfl] at H;exact H
        clear H;have H:=H1;clear H1;obtain rfl:=Option.some.inj H
        go_wp2
        go_ret
        exact ⟨by first|rfl|(simp [errW_none,errW_some] <;> rfl)|(simp [*,errW_none,errW_some] <;> rfl),by repeat first|(with_reducible first|exact HB.out|apply lA_|apply lN_|apply lD_)|exact HB.out⟩
       replace c21:=Bool.eq_false_iff.mpr c21;subst c21
       have H1:(if a0<0 then (some (wrap64 (32768+x7_4))) else (some (Int.tmod (wrap64 (65536-x7_4)) 65536)))=some r:=by rw [if_neg (show ¬ (false=true) by decide)] at H;exact H
       clear H;have H:=H1;clear H1;by_cases c22:a0<0
       ·rw [if_pos c22] at H
        have c22b0:=decide_eq_true c22;clear c22;obtain rfl:=Option.some.inj H
        go_wp2
        go_ret
        exact ⟨by first|rfl|(simp [errW_none,errW_some] <;> rfl)|(simp [*,errW_none,errW_some] <;> rfl),by repeat first|(with_reducible first|exact HB.out|apply lA_|apply lN_|apply lD_)|exact HB.out⟩
       rw [if_neg c22] at H;have c22b0:=decide_eq_false c22;clear c22;obtain rfl:=Option.some.inj H
       go_wp2
       go_ret
       exact ⟨by first|rfl|(simp [errW_none,errW_some] <;> rfl)|(simp [*,errW_none,errW_some] <;> rfl),by repeat first|(with_reducible first|exact HB.out|apply lA_|apply lN_|apply lD_)|exact HB.out⟩

/-! ### num_times: function 65 -/
def num_times.f (a0:Int) (a1:Int):Option (Int × Int):=some (IntKind.u64.wrap ((IntKind.u64.wrap ((IntKind.u64.wrap ((a0 / 4294967296)*(a1 / 4294967296)))+((IntKind.u64.wrap ((IntKind.u64.wrap ((a0 / 4294967296)*(Go.bits .and .u64 a1 4294967295)))+((IntKind.u64.wrap ((Go.bits .and .u64 a0 4294967295)*(Go.bits .and .u64 a1 4294967295))) / 4294967296))) / 4294967296)))+((IntKind.u64.wrap ((IntKind.u64.wrap ((Go.bits .and .u64 a0 4294967295)*(a1 / 4294967296)))+(Go.bits .and .u64 (IntKind.u64.wrap ((IntKind.u64.wrap ((a0 / 4294967296)*(Go.bits .and .u64 a1 4294967295)))+((IntKind.u64.wrap ((Go.bits .and .u64 a0 4294967295)*(Go.bits .and .u64 a1 4294967295))) / 4294967296))) 4294967295))) / 4294967296)),Go.bits .or .u64 (IntKind.u64.wrap ((IntKind.u64.wrap ((IntKind.u64.wrap ((Go.bits .and .u64 a0 4294967295)*(a1 / 4294967296)))+(Go.bits .and .u64 (IntKind.u64.wrap ((IntKind.u64.wrap ((a0 / 4294967296)*(Go.bits .and .u64 a1 4294967295)))+((IntKind.u64.wrap ((Go.bits .and .u64 a0 4294967295)*(Go.bits .and .u64 a1 4294967295))) / 4294967296))) 4294967295)))*4294967296)) (Go.bits .and .u64 (IntKind.u64.wrap ((Go.bits .and .u64 a0 4294967295)*(Go.bits .and .u64 a1 4294967295))) 4294967295))
set_option maxHeartbeats 8000000 in
set_option maxRecDepth 100000 in
theorem num_times.calls (a0:Int) (a1:Int) (r1:Int) (r2:Int) (w:World) (h:num_times.f a0 a1=some (r1,r2)) :
  Calls Try.prog 65 #[.int .u64 a0,.int .u64 a1] w fun e w'=>e = .returned (.tuple #[.int .u64 r1,.int .u64 r2])∧Drawn0 w w':=by
 have H:(some (IntKind.u64.wrap ((IntKind.u64.wrap ((IntKind.u64.wrap ((a0 / 4294967296)*(a1 / 4294967296)))+((IntKind.u64.wrap ((IntKind.u64.wrap ((a0 / 4294967296)*(Go.bits .and .u64 a1 4294967295)))+((IntKind.u64.wrap ((Go.bits .and .u64 a0 4294967295)*(Go.bits .and .u64 a1 4294967295))) / 4294967296))) / 4294967296)))+((IntKind.u64.wrap ((IntKind.u64.wrap ((Go.bits .and .u64 a0 4294967295)*(a1 / 4294967296)))+(Go.bits .and .u64 (IntKind.u64.wrap ((IntKind.u64.wrap ((a0 / 4294967296)*(Go.bits .and .u64 a1 4294967295)))+((IntKind.u64.wrap ((Go.bits .and .u64 a0 4294967295)*(Go.bits .and .u64 a1 4294967295))) / 4294967296))) 4294967295))) / 4294967296)),Go.bits .or .u64 (IntKind.u64.wrap ((IntKind.u64.wrap ((IntKind.u64.wrap ((Go.bits .and .u64 a0 4294967295)*(a1 / 4294967296)))+(Go.bits .and .u64 (IntKind.u64.wrap ((IntKind.u64.wrap ((a0 / 4294967296)*(Go.bits .and .u64 a1 4294967295)))+((IntKind.u64.wrap ((Go.bits .and .u64 a0 4294967295)*(Go.bits .and .u64 a1 4294967295))) / 4294967296))) 4294967295)))*4294967296)) (Go.bits .and .u64 (IntKind.u64.wrap ((Go.bits .and .u64 a0 4294967295)*(Go.bits .and .u64 a1 4294967295))) 4294967295)))=some (r1,r2):=h;clear h;simp only [Option.some.injEq,Prod.mk.injEq] at H;obtain ⟨rfl,rfl⟩:=H
 go_enter Try.func65,Try.ntmps65
 go_wp2
 go_ret2
 exact ⟨by first|rfl|(simp;done)|(simp [*];done),by repeat (first|exact Drawn0.refl _|apply Drawn0.step)⟩

/-! ### num_size: function 66 -/
def num_size.f (a0:Int):Option (Int):=if a0<0 then (some (IntKind.u64.wrap (-(IntKind.u64.wrap (a0))))) else (some (IntKind.u64.wrap (a0)))
set_option maxHeartbeats 8000000 in
set_option maxRecDepth 100000 in
theorem num_size.calls (a0:Int) (r:Int) (w:World) (h:num_size.f a0=some r) :
  Calls Try.prog 66 #[.int .i64 a0] w fun e w'=>e = .returned (.int .u64 r)∧Drawn0 w w':=by
 have H:(if a0<0 then (some (IntKind.u64.wrap (-(IntKind.u64.wrap (a0))))) else (some (IntKind.u64.wrap (a0))))=some r:=h
 clear h;by_cases c2:a0<0
 ·rw [if_pos c2] at H
  have c2b0:=decide_eq_true c2;clear c2;obtain rfl:=Option.some.inj H
  go_enter Try.func66,Try.ntmps66
  go_wp2
  go_ret
  exact ⟨by first|rfl|(simp;done)|(simp [*];done),by repeat (first|exact Drawn0.refl _|apply Drawn0.step)⟩
 rw [if_neg c2] at H;have c2b0:=decide_eq_false c2;clear c2;obtain rfl:=Option.some.inj H
 go_enter Try.func66,Try.ntmps66
 go_wp2
 go_ret
 exact ⟨by first|rfl|(simp;done)|(simp [*];done),by repeat (first|exact Drawn0.refl _|apply Drawn0.step)⟩

/-! ### num_root: function 67 -/
def num_root.l0:Nat→Int→Int→Int→Int→Option (Int)
 | 0,_,_,_,_=>none
 | k+1,x0,x1,x5,x6=>if x6>0 then ((num_times.f (Go.bits .or .u64 x5 x6) (Go.bits .or .u64 x5 x6)).bind fun bt141=>(if bt141.1<x0 then (num_root.l0 k x0 x1 (Go.bits .or .u64 x5 x6) (x6 / 2)) else (if bt141.1=x0 then (if bt141.2≤x1 then (num_root.l0 k x0 x1 (Go.bits .or .u64 x5 x6) (x6 / 2)) else (num_root.l0 k x0 x1 x5 (x6 / 2))) else (num_root.l0 k x0 x1 x5 (x6 / 2))))) else (some (wrap64 (x5)))
def num_root.f (k:Nat) (a0:Int) (a1:Int):Option (Int):=num_root.l0 k a0 a1 0 4611686018427387904
theorem num_root.mono_l:∀ k,(∀ y0 y1 y2 y3,LeO (num_root.l0 k y0 y1 y2 y3) (num_root.l0 (k+1) y0 y1 y2 y3))
 | 0=>fun _ _ _ _ r h=>by simp [num_root.l0] at h
 | k+1=>by
  have ih0:=num_root.mono_l k
  ·intro y0 y1 y2 y3
   unfold num_root.l0
   repeat' first
   | (with_reducible exact ih0 _ _ _ _)
   | (with_reducible exact LeO.refl _)
   | (with_reducible exact LeO.none _)
   | (with_reducible refine LeO.ite ?_ ?_)
   | (with_reducible refine LeO.bind ?_ (fun _=>?_))
theorem num_root.mono:∀ a0 a1 k,LeO (num_root.f k a0 a1) (num_root.f (k+1) a0 a1):=by
 intro a0 a1 k;have ih0:=num_root.mono_l k
 unfold num_root.f
 repeat' first
   | (with_reducible exact ih0 _ _ _ _)
   | (with_reducible exact LeO.refl _)
   | (with_reducible exact LeO.none _)
   | (with_reducible refine LeO.ite ?_ ?_)
   | (with_reducible refine LeO.bind ?_ (fun _=>?_))
set_option maxHeartbeats 8000000 in
set_option maxRecDepth 100000 in
theorem num_root.calls (k:Nat) (a0:Int) (a1:Int) (r:Int) (w:World) (h:num_root.f k a0 a1=some r) :
  Calls Try.prog 67 #[.int .u64 a0,.int .u64 a1] w fun e w'=>e = .returned (.int .i64 r)∧Drawn0 w w':=by
 have H:(num_root.l0 k a0 a1 0 4611686018427387904)=some r:=h;clear h;have H':=Aside0.mk H;clear H
 go_enter Try.func67,Try.ntmps67
 go_wp2
 go_loopg [5,6] k (fun kq v5 v6 w'=>∃ (x5_1:Int) (x6_1:Int),v5 = .int .u64 x5_1∧v6 = .int .u64 x6_1∧Aside0 (num_root.l0 kq a0 a1 x5_1 x6_1=some r)∧Aside0 (kq≤k)∧Drawn0 w w')
 case atStart=>exact ⟨(0),(4611686018427387904),(by first|rfl|(simp;done)|(simp [*];done)),(by first|rfl|(simp;done)|(simp [*];done)),H',⟨Nat.le_refl _⟩,by repeat (first|exact Drawn0.refl _|apply Drawn0.step)⟩
 case round =>
  clear H';obtain ⟨x5_1,x6_1,rfl,rfl,HA,HK1,⟨m1,rfl⟩⟩:=hrel
  cases gk with
  | zero=>exact absurd HA.out (by simp [num_root.l0])
  | succ k1 =>
   have H:=HA.out;clear HA;simp only [num_root.l0] at H;by_cases c3:x6_1>0
   ·rw [if_pos c3] at H
    have c3b0:=decide_eq_true c3;clear c3;replace H:=Option.bind_eq_some_iff.mp H;obtain ⟨⟨t141,t142⟩,A40,H⟩:=H
    replace H:(if t141<a0 then (num_root.l0 k1 a0 a1 (Go.bits .or .u64 x5_1 x6_1) (x6_1 / 2)) else (if t141=a0 then (if t142≤a1 then (num_root.l0 k1 a0 a1 (Go.bits .or .u64 x5_1 x6_1) (x6_1 / 2)) else (num_root.l0 k1 a0 a1 x5_1 (x6_1 / 2))) else (num_root.l0 k1 a0 a1 x5_1 (x6_1 / 2))))=some r:=H
    have A4:=Aside0.mk A40;clear A40;by_cases c5:t141<a0
    ·rw [if_pos c5] at H
     have c5b0:=decide_eq_true c5;clear c5;have H':=Aside0.mk H;clear H
     go_wp2_with (first|((with_reducible refine gate_callee (f:=65) rfl ?_);refine goesL_ (some 20) rfl rfl Try.func65 (by kernel_rfl) rfl #[.int .u64 (Go.bits .or .u64 x5_1 x6_1),.int .u64 (Go.bits .or .u64 x5_1 x6_1)] rfl (by (try simp only [mA_,mC_,mN_]);first|done|rfl|(simp only [dL_,kL_];rfl)) ?_;(with_reducible refine (num_times.calls (Go.bits .or .u64 x5_1 x6_1) (Go.bits .or .u64 x5_1 x6_1) t141 t142 _ A4.out).mono ?_);rintro e w' ⟨rfl,⟨nd,rfl⟩⟩;refine ⟨_,rfl,?_⟩))
     go_roundg k1
     case measure=>have:=HK1.out;omega
     case rel=>exact ⟨(Go.bits .or .u64 x5_1 x6_1),(x6_1 / 2),(by first|rfl|(simp;done)|(simp [*];done)),(by first|rfl|(simp;done)|(simp [*];done)),H',⟨by have:=HK1.out;omega⟩,by repeat (first|exact Drawn0.refl _|apply Drawn0.step)⟩
    rw [if_neg c5] at H;have c5b0:=decide_eq_false c5;clear c5;by_cases c6:t141=a0
    ·rw [if_pos c6] at H
     have c6b0:=beq_iff_eq.mpr c6;have c6b1:=bne_eq_false_iff_eq.mpr c6;clear c6;by_cases c7:t142≤a1
     ·rw [if_pos c7] at H
      have c7b0:=decide_eq_true c7;clear c7;have H':=Aside0.mk H;clear H
      go_wp2_with (first|((with_reducible refine gate_callee (f:=65) rfl ?_);refine goesL_ (some 20) rfl rfl Try.func65 (by kernel_rfl) rfl #[.int .u64 (Go.bits .or .u64 x5_1 x6_1),.int .u64 (Go.bits .or .u64 x5_1 x6_1)] rfl (by (try simp only [mA_,mC_,mN_]);first|done|rfl|(simp only [dL_,kL_];rfl)) ?_;(with_reducible refine (num_times.calls (Go.bits .or .u64 x5_1 x6_1) (Go.bits .or .u64 x5_1 x6_1) t141 t142 _ A4.out).mono ?_);rintro e w' ⟨rfl,⟨nd,rfl⟩⟩;refine ⟨_,rfl,?_⟩))
      go_roundg k1
      case measure=>have:=HK1.out;omega
      case rel=>exact ⟨(Go.bits .or .u64 x5_1 x6_1),(x6_1 / 2),(by first|rfl|(simp;done)|(simp [*];done)),(by first|rfl|(simp;done)|(simp [*];done)),H',⟨by have:=HK1.out;omega⟩,by repeat (first|exact Drawn0.refl _|apply Drawn0.step)⟩
     rw [if_neg c7] at H;have c7b0:=decide_eq_false c7;clear c7;have H':=Aside0.mk H;clear H
     go_wp2_with (first|((with_reducible refine gate_callee (f:=65) rfl ?_);refine goesL_ (some 20) rfl rfl Try.func65 (by kernel_rfl) rfl #[.int .u64 (Go.bits .or .u64 x5_1 x6_1),.int .u64 (Go.bits .or .u64 x5_1 x6_1)] rfl (by (try simp only [mA_,mC_,mN_]);first|done|rfl|(simp only [dL_,kL_];rfl)) ?_;(with_reducible refine (num_times.calls (Go.bits .or .u64 x5_1 x6_1) (Go.bits .or .u64 x5_1 x6_1) t141 t142 _ A4.out).mono ?_);rintro e w' ⟨rfl,⟨nd,rfl⟩⟩;refine ⟨_,rfl,?_⟩))
     go_roundg k1
     case measure=>have:=HK1.out;omega
     case rel=>exact ⟨(x5_1),(x6_1 / 2),(by first|rfl|(simp;done)|(simp [*];done)),(by first|rfl|(simp;done)|(simp [*];done)),H',⟨by have:=HK1.out;omega⟩,by repeat (first|exact Drawn0.refl _|apply Drawn0.step)⟩
    rw [if_neg c6] at H;have c6b0:(t141==a0)=false:=beq_eq_false_iff_ne.mpr c6;have c6b1:(t141 != a0)=true:=bne_iff_ne.mpr c6;have H':=Aside0.mk H;clear H
    go_wp2_with (first|((with_reducible refine gate_callee (f:=65) rfl ?_);refine goesL_ (some 20) rfl rfl Try.func65 (by kernel_rfl) rfl #[.int .u64 (Go.bits .or .u64 x5_1 x6_1),.int .u64 (Go.bits .or .u64 x5_1 x6_1)] rfl (by (try simp only [mA_,mC_,mN_]);first|done|rfl|(simp only [dL_,kL_];rfl)) ?_;(with_reducible refine (num_times.calls (Go.bits .or .u64 x5_1 x6_1) (Go.bits .or .u64 x5_1 x6_1) t141 t142 _ A4.out).mono ?_);rintro e w' ⟨rfl,⟨nd,rfl⟩⟩;refine ⟨_,rfl,?_⟩))
    go_roundg k1
    case measure=>have:=HK1.out;omega
    case rel=>exact ⟨(x5_1),(x6_1 / 2),(by first|rfl|(simp;done)|(simp [*];done)),(by first|rfl|(simp;done)|(simp [*];done)),H',⟨by have:=HK1.out;omega⟩,by repeat (first|exact Drawn0.refl _|apply Drawn0.step)⟩
   rw [if_neg c3] at H;have c3b0:=decide_eq_false c3;clear c3;obtain rfl:=Option.some.inj H
   go_wp2
   go_ret
   exact ⟨by first|rfl|(simp;done)|(simp [*];done),by repeat (first|exact Drawn0.refl _|apply Drawn0.step)⟩

/-! ### num_Hypot: function 56 -/
def num_Hypot.f (k:Nat) (a0:Int) (a1:Int):Option (Int):=(num_size.f a0).bind fun t143=>((num_size.f a0).bind fun t144=>((num_times.f t143 t144).bind fun bt145=>((num_size.f a1).bind fun t147=>((num_size.f a1).bind fun t148=>((num_times.f t147 t148).bind fun bt149=>(if (IntKind.u64.wrap (bt145.2+bt149.2))<bt145.2 then ((num_root.f k (IntKind.u64.wrap ((IntKind.u64.wrap (bt145.1+bt149.1))+1)) (IntKind.u64.wrap (bt145.2+bt149.2))).bind fun t151=>(some t151)) else ((num_root.f k (IntKind.u64.wrap (bt145.1+bt149.1)) (IntKind.u64.wrap (bt145.2+bt149.2))).bind fun t152=>(some t152))))))))
theorem num_Hypot.mono:∀ a0 a1 k,LeO (num_Hypot.f k a0 a1) (num_Hypot.f (k+1) a0 a1):=by
 intro a0 a1 k
 unfold num_Hypot.f
 repeat' first
   | (with_reducible exact num_root.mono _ _ _)
   | (with_reducible exact LeO.refl _)
   | (with_reducible exact LeO.none _)
   | (with_reducible refine LeO.ite ?_ ?_)
   | (with_reducible refine LeO.bind ?_ (fun _=>?_))
set_option maxHeartbeats 8000000 in
set_option maxRecDepth 100000 in
theorem num_Hypot.calls (k:Nat) (a0:Int) (a1:Int) (r:Int) (w:World) (h:num_Hypot.f k a0 a1=some r) :
  Calls Try.prog 56 #[.int .i64 a0,.int .i64 a1] w fun e w'=>e = .returned (.int .i64 r)∧Drawn0 w w':=by
 have H:((num_size.f a0).bind fun t143=>((num_size.f a0).bind fun t144=>((num_times.f t143 t144).bind fun bt145=>((num_size.f a1).bind fun t147=>((num_size.f a1).bind fun t148=>((num_times.f t147 t148).bind fun bt149=>(if (IntKind.u64.wrap (bt145.2+bt149.2))<bt145.2 then ((num_root.f k (IntKind.u64.wrap ((IntKind.u64.wrap (bt145.1+bt149.1))+1)) (IntKind.u64.wrap (bt145.2+bt149.2))).bind fun t151=>(some t151)) else ((num_root.f k (IntKind.u64.wrap (bt145.1+bt149.1)) (IntKind.u64.wrap (bt145.2+bt149.2))).bind fun t152=>(some t152)))))))))=some r:=h
 clear h;replace H:=Option.bind_eq_some_iff.mp H;obtain ⟨t143,A30,H⟩:=H
 replace H:((num_size.f a0).bind fun t144=>((num_times.f t143 t144).bind fun bt145=>((num_size.f a1).bind fun t147=>((num_size.f a1).bind fun t148=>((num_times.f t147 t148).bind fun bt149=>(if (IntKind.u64.wrap (bt145.2+bt149.2))<bt145.2 then ((num_root.f k (IntKind.u64.wrap ((IntKind.u64.wrap (bt145.1+bt149.1))+1)) (IntKind.u64.wrap (bt145.2+bt149.2))).bind fun t151=>(some t151)) else ((num_root.f k (IntKind.u64.wrap (bt145.1+bt149.1)) (IntKind.u64.wrap (bt145.2+bt149.2))).bind fun t152=>(some t152))))))))=some r:=H
 have A3:=Aside0.mk A30;clear A30;replace H:=Option.bind_eq_some_iff.mp H;obtain ⟨t144,A40,H⟩:=H
 replace H:((num_times.f t143 t144).bind fun bt145=>((num_size.f a1).bind fun t147=>((num_size.f a1).bind fun t148=>((num_times.f t147 t148).bind fun bt149=>(if (IntKind.u64.wrap (bt145.2+bt149.2))<bt145.2 then ((num_root.f k (IntKind.u64.wrap ((IntKind.u64.wrap (bt145.1+bt149.1))+1)) (IntKind.u64.wrap (bt145.2+bt149.2))).bind fun t151=>(some t151)) else ((num_root.f k (IntKind.u64.wrap (bt145.1+bt149.1)) (IntKind.u64.wrap (bt145.2+bt149.2))).bind fun t152=>(some t152)))))))=some r:=H
 have A4:=Aside0.mk A40;clear A40;replace H:=Option.bind_eq_some_iff.mp H;obtain ⟨⟨t145,t146⟩,A50,H⟩:=H
 replace H:((num_size.f a1).bind fun t147=>((num_size.f a1).bind fun t148=>((num_times.f t147 t148).bind fun bt149=>(if (IntKind.u64.wrap (t146+bt149.2))<t146 then ((num_root.f k (IntKind.u64.wrap ((IntKind.u64.wrap (t145+bt149.1))+1)) (IntKind.u64.wrap (t146+bt149.2))).bind fun t151=>(some t151)) else ((num_root.f k (IntKind.u64.wrap (t145+bt149.1)) (IntKind.u64.wrap (t146+bt149.2))).bind fun t152=>(some t152))))))=some r:=H
 have A5:=Aside0.mk A50;clear A50;replace H:=Option.bind_eq_some_iff.mp H;obtain ⟨t147,A60,H⟩:=H
 replace H:((num_size.f a1).bind fun t148=>((num_times.f t147 t148).bind fun bt149=>(if (IntKind.u64.wrap (t146+bt149.2))<t146 then ((num_root.f k (IntKind.u64.wrap ((IntKind.u64.wrap (t145+bt149.1))+1)) (IntKind.u64.wrap (t146+bt149.2))).bind fun t151=>(some t151)) else ((num_root.f k (IntKind.u64.wrap (t145+bt149.1)) (IntKind.u64.wrap (t146+bt149.2))).bind fun t152=>(some t152)))))=some r:=H
 have A6:=Aside0.mk A60;clear A60;replace H:=Option.bind_eq_some_iff.mp H;obtain ⟨t148,A70,H⟩:=H
 replace H:((num_times.f t147 t148).bind fun bt149=>(if (IntKind.u64.wrap (t146+bt149.2))<t146 then ((num_root.f k (IntKind.u64.wrap ((IntKind.u64.wrap (t145+bt149.1))+1)) (IntKind.u64.wrap (t146+bt149.2))).bind fun t151=>(some t151)) else ((num_root.f k (IntKind.u64.wrap (t145+bt149.1)) (IntKind.u64.wrap (t146+bt149.2))).bind fun t152=>(some t152))))=some r:=H
 have A7:=Aside0.mk A70;clear A70;replace H:=Option.bind_eq_some_iff.mp H;obtain ⟨⟨t149,t150⟩,A80,H⟩:=H
 replace H:(if (IntKind.u64.wrap (t146+t150))<t146 then ((num_root.f k (IntKind.u64.wrap ((IntKind.u64.wrap (t145+t149))+1)) (IntKind.u64.wrap (t146+t150))).bind fun t151=>(some t151)) else ((num_root.f k (IntKind.u64.wrap (t145+t149)) (IntKind.u64.wrap (t146+t150))).bind fun t152=>(some t152)))=some r:=H
 have A8:=Aside0.mk A80;clear A80;by_cases c9:(IntKind.u64.wrap (t146+t150))<t146
 ·rw [if_pos c9] at H
  have c9b0:=decide_eq_true c9;clear c9;replace H:=Option.bind_eq_some_iff.mp H;obtain ⟨t151,A100,H⟩:=H;replace H:(some t151)=some r:=H;have A10:=Aside0.mk A100;clear A100;obtain rfl:=Option.some.inj H
  go_enter Try.func56,Try.ntmps56
  go_wp2_with (first|((with_reducible refine gate_callee (f:=66) rfl ?_);refine goesL_ (some 13) rfl rfl Try.func66 (by kernel_rfl) rfl #[.int .i64 a0] rfl (by (try simp only [mA_,mC_,mN_]);first|done|rfl|(simp only [dL_,kL_];rfl)) ?_;(with_reducible refine (num_size.calls a0 t143 _ A3.out).mono ?_);rintro e w' ⟨rfl,⟨nd,rfl⟩⟩;refine ⟨_,rfl,?_⟩)|((with_reducible refine gate_callee (f:=66) rfl ?_);refine goesL_ (some 15) rfl rfl Try.func66 (by kernel_rfl) rfl #[.int .i64 a0] rfl (by (try simp only [mA_,mC_,mN_]);first|done|rfl|(simp only [dL_,kL_];rfl)) ?_;(with_reducible refine (num_size.calls a0 t144 _ A4.out).mono ?_);rintro e w' ⟨rfl,⟨nd,rfl⟩⟩;refine ⟨_,rfl,?_⟩)|((with_reducible refine gate_callee (f:=65) rfl ?_);refine goesL_ (some 16) rfl rfl Try.func65 (by kernel_rfl) rfl #[.int .u64 t143,.int .u64 t144] rfl (by (try simp only [mA_,mC_,mN_]);first|done|rfl|(simp only [dL_,kL_];rfl)) ?_;(with_reducible refine (num_times.calls t143 t144 t145 t146 _ A5.out).mono ?_);rintro e w' ⟨rfl,⟨nd,rfl⟩⟩;refine ⟨_,rfl,?_⟩)|((with_reducible refine gate_callee (f:=66) rfl ?_);refine goesL_ (some 21) rfl rfl Try.func66 (by kernel_rfl) rfl #[.int .i64 a1] rfl (by (try simp only [mA_,mC_,mN_]);first|done|rfl|(simp only [dL_,kL_];rfl)) ?_;(with_reducible refine (num_size.calls a1 t147 _ A6.out).mono ?_);rintro e w' ⟨rfl,⟨nd,rfl⟩⟩;refine ⟨_,rfl,?_⟩)|((with_reducible refine gate_callee (f:=66) rfl ?_);refine goesL_ (some 23) rfl rfl Try.func66 (by kernel_rfl) rfl #[.int .i64 a1] rfl (by (try simp only [mA_,mC_,mN_]);first|done|rfl|(simp only [dL_,kL_];rfl)) ?_;(with_reducible refine (num_size.calls a1 t148 _ A7.out).mono ?_);rintro e w' ⟨rfl,⟨nd,rfl⟩⟩;refine ⟨_,rfl,?_⟩)|((with_reducible refine gate_callee (f:=65) rfl ?_);refine goesL_ (some 24) rfl rfl Try.func65 (by kernel_rfl) rfl #[.int .u64 t147,.int .u64 t148] rfl (by (try simp only [mA_,mC_,mN_]);first|done|rfl|(simp only [dL_,kL_];rfl)) ?_;(with_reducible refine (num_times.calls t147 t148 t149 t150 _ A8.out).mono ?_);rintro e w' ⟨rfl,⟨nd,rfl⟩⟩;refine ⟨_,rfl,?_⟩)|((with_reducible refine gate_callee (f:=67) rfl ?_);refine goesL_ (some 40) rfl rfl Try.func67 (by kernel_rfl) rfl #[.int .u64 (IntKind.u64.wrap ((IntKind.u64.wrap (t145+t149))+1)),.int .u64 (IntKind.u64.wrap (t146+t150))] rfl (by (try simp only [mA_,mC_,mN_]);first|done|rfl|(simp only [dL_,kL_];rfl)) ?_;(with_reducible refine (num_root.calls k (IntKind.u64.wrap ((IntKind.u64.wrap (t145+t149))+1)) (IntKind.u64.wrap (t146+t150)) t151 _ A10.out).mono ?_);rintro e w' ⟨rfl,⟨nd,rfl⟩⟩;refine ⟨_,rfl,?_⟩))
  go_ret
  exact ⟨by first|rfl|(simp;done)|(simp [*];done),by repeat (first|exact Drawn0.refl _|apply Drawn0.step)⟩
 rw [if_neg c9] at H;have c9b0:=decide_eq_false c9;clear c9;replace H:=Option.bind_eq_some_iff.mp H;obtain ⟨t152,A110,H⟩:=H;replace H:(some t152)=some r:=H;have A11:=Aside0.mk A110;clear A110;obtain rfl:=Option.some.inj H
 go_enter Try.func56,Try.ntmps56
 go_wp2_with (first|((with_reducible refine gate_callee (f:=66) rfl ?_);refine goesL_ (some 13) rfl rfl Try.func66 (by kernel_rfl) rfl #[.int .i64 a0] rfl (by (try simp only [mA_,mC_,mN_]);first|done|rfl|(simp only [dL_,kL_];rfl)) ?_;(with_reducible refine (num_size.calls a0 t143 _ A3.out).mono ?_);rintro e w' ⟨rfl,⟨nd,rfl⟩⟩;refine ⟨_,rfl,?_⟩)|((with_reducible refine gate_callee (f:=66) rfl ?_);refine goesL_ (some 15) rfl rfl Try.func66 (by kernel_rfl) rfl #[.int .i64 a0] rfl (by (try simp only [mA_,mC_,mN_]);first|done|rfl|(simp only [dL_,kL_];rfl)) ?_;(with_reducible refine (num_size.calls a0 t144 _ A4.out).mono ?_);rintro e w' ⟨rfl,⟨nd,rfl⟩⟩;refine ⟨_,rfl,?_⟩)|((with_reducible refine gate_callee (f:=65) rfl ?_);refine goesL_ (some 16) rfl rfl Try.func65 (by kernel_rfl) rfl #[.int .u64 t143,.int .u64 t144] rfl (by (try simp only [mA_,mC_,mN_]);first|done|rfl|(simp only [dL_,kL_];rfl)) ?_;(with_reducible refine (num_times.calls t143 t144 t145 t146 _ A5.out).mono ?_);rintro e w' ⟨rfl,⟨nd,rfl⟩⟩;refine ⟨_,rfl,?_⟩)|((with_reducible refine gate_callee (f:=66) rfl ?_);refine goesL_ (some 21) rfl rfl Try.func66 (by kernel_rfl) rfl #[.int .i64 a1] rfl (by (try simp only [mA_,mC_,mN_]);first|done|rfl|(simp only [dL_,kL_];rfl)) ?_;(with_reducible refine (num_size.calls a1 t147 _ A6.out).mono ?_);rintro e w' ⟨rfl,⟨nd,rfl⟩⟩;refine ⟨_,rfl,?_⟩)|((with_reducible refine gate_callee (f:=66) rfl ?_);refine goesL_ (some 23) rfl rfl Try.func66 (by kernel_rfl) rfl #[.int .i64 a1] rfl (by (try simp only [mA_,mC_,mN_]);first|done|rfl|(simp only [dL_,kL_];rfl)) ?_;(with_reducible refine (num_size.calls a1 t148 _ A7.out).mono ?_);rintro e w' ⟨rfl,⟨nd,rfl⟩⟩;refine ⟨_,rfl,?_⟩)|((with_reducible refine gate_callee (f:=65) rfl ?_);refine goesL_ (some 24) rfl rfl Try.func65 (by kernel_rfl) rfl #[.int .u64 t147,.int .u64 t148] rfl (by (try simp only [mA_,mC_,mN_]);first|done|rfl|(simp only [dL_,kL_];rfl)) ?_;(with_reducible refine (num_times.calls t147 t148 t149 t150 _ A8.out).mono ?_);rintro e w' ⟨rfl,⟨nd,rfl⟩⟩;refine ⟨_,rfl,?_⟩)|((with_reducible refine gate_callee (f:=67) rfl ?_);refine goesL_ (some 40) rfl rfl Try.func67 (by kernel_rfl) rfl #[.int .u64 (IntKind.u64.wrap (t145+t149)),.int .u64 (IntKind.u64.wrap (t146+t150))] rfl (by (try simp only [mA_,mC_,mN_]);first|done|rfl|(simp only [dL_,kL_];rfl)) ?_;(with_reducible refine (num_root.calls k (IntKind.u64.wrap (t145+t149)) (IntKind.u64.wrap (t146+t150)) t152 _ A11.out).mono ?_);rintro e w' ⟨rfl,⟨nd,rfl⟩⟩;refine ⟨_,rfl,?_⟩))
 go_ret
 exact ⟨by first|rfl|(simp;done)|(simp [*];done),by repeat (first|exact Drawn0.refl _|apply Drawn0.step)⟩

end Go.Proofs.Ytmlcobnidfkhfaa.Q
