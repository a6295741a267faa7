/- Plain laws of quotients, checks, places, colors and of Draw, the program's and the reference's. -/
import Derived.Test.YtmlcobnidfkhfaaQ4
import Derived.Test.YtmlcobnidfkhfaaQ15
import Derived.Test.YtmlcobnidfkhfaaQ2
import Derived.Test.YtmlcobnidfkhfaaQ3
import Derived.Test.YtmlcobnidfkhfaaQ18
import Derived.Test.YtmlcobnidfkhfaaQ5
import Derived.Test.YtmlcobnidfkhfaaQ19
import Derived.Test.YtmlcobnidfkhfaaQ8
import Derived.Test.YtmlcobnidfkhfaaQ20
import Derived.Test.YtmlcobnidfkhfaaQ9
import Derived.Test.YtmlcobnidfkhfaaQ11
import Derived.Test.YtmlcobnidfkhfaaQ17
import Derived.Test.YtmlcobnidfkhfaaQ12
import Derived.Test.YtmlcobnidfkhfaaQ20v
import Derived.Test.YtmlcobnidfkhfaaQ21
import Derived.Test.YtmlcobnidfkhfaaQ13
namespace Go.Proofs.Ytmlcobnidfkhfaa.Q
open Go.RowKit Go.Proofs.YtmlcobnidfkhfaaW.PrintWords Go.Proofs.YtmlcobnidfkhfaaW.PrintLast Go.Proofs.YtmlcobnidfkhfaaW.PrintMore
set_option linter.unusedVariables false
set_option linter.unusedSimpArgs false

theorem w_in {n:Int} (h1:-9223372036854775808≤n) (h2:n≤9223372036854775807):wrap64 n=n:=by unfold wrap64;omega
theorem wf_bd {n:Int} (h:(Lit.int .i64 n).wf=true):-9223372036854775808≤n∧n≤9223372036854775807:=by
 simp only [Lit.wf,IntKind.min,IntKind.max,IntKind.signed,IntKind.bits,Bool.and_eq_true,decide_eq_true_eq,if_true] at h
 omega
theorem u_in {n:Int} (h1:0≤n) (h2:n≤18446744073709551615):IntKind.u64.wrap n=n:=by
 have h:IntKind.u64.wrap n=n % 18446744073709551616:=rfl
 rw [h];omega

theorem div_lo {a b:Int} (hb:0<b) (h1:-9223372036854775808≤a):-9223372036854775808≤a / b:=by
 rw [Int.le_ediv_iff_mul_le hb]
 have:(-9223372036854775808)*b≤(-9223372036854775808)*1:=Int.mul_le_mul_of_nonpos_left (by omega) (by omega)
 omega
theorem div_hi {a b:Int} (hb:0<b) (h2:a≤9223372036854775807):a / b≤9223372036854775807:=by
 have:a / b<9223372036854775808:=by
  rw [Int.ediv_lt_iff_lt_mul hb]
  have:9223372036854775808*1≤9223372036854775808*b:=Int.mul_le_mul_of_nonneg_left (by omega) (by omega)
  omega
 omega

theorem tdiv_pos {a b:Int} (h:0≤a ∨ Int.tmod a b=0):Int.tdiv a b=a / b:=by
 rw [Int.tdiv_eq_ediv]
 rw [if_pos (by rcases h with h|h;exact .inl h;exact .inr (Int.dvd_of_tmod_eq_zero h))];omega
theorem tdiv_neg {a b:Int} (hb:0<b) (h:a<0) (h0:¬ Int.tmod a b=0):Int.tdiv a b=a / b+1:=by
 rw [Int.tdiv_eq_ediv]
 rw [if_neg (by rintro (h|h);omega;exact h0 (Int.tmod_eq_zero_of_dvd h)),Int.sign_eq_one_of_pos hb]

theorem floor_pos (a b:Int) (hb:0<b) (h1:-9223372036854775808≤a) (h2:a≤9223372036854775807):num_Floor.f a b=some (a / b):=by
 have l1:=div_lo hb h1;have l2:=div_hi hb h2
 unfold num_Floor.f
 rw [if_neg (by omega),if_neg (by omega)]
 by_cases h0:Int.tmod a b=0
 ·rw [if_pos h0,tdiv_pos (.inr h0),w_in l1 l2]
 ·rw [if_neg h0]
  by_cases ha:a<0
  ·rw [if_pos (by simp only [ha,decide_true,show ¬ b<0 by omega,decide_false];rfl),tdiv_neg hb ha h0]
   have:a / b<0:=Int.ediv_neg_of_neg_of_pos ha hb
   rw [w_in (n:=a / b+1) (by omega) (by omega),Int.add_sub_cancel,w_in l1 l2]
  ·rw [if_neg (by simp only [ha,show ¬ b<0 by omega,decide_false];decide),tdiv_pos (.inl (by omega)),w_in l1 l2]

/-- the quotient, rounded to the nearest, halves up -/
def dv (a b:Int):Int:=(2*a+b) / (2*b)

theorem dv_up {a b:Int} (hb:0<b) (h:a-a / b*b≥b-(a-a / b*b)):dv a b=a / b+1:=by
 have e:=Int.mul_ediv_add_emod a b
 have m1:=Int.emod_nonneg a (show b ≠ 0 by omega);have m2:=Int.emod_lt_of_pos a hb
 rw [Int.mul_comm] at e
 generalize a / b=q at *
 unfold dv
 have hp:0<2*b:=by omega
 apply Int.le_antisymm
 ·have:(2*a+b) / (2*b)<q+1+1:=by
   rw [Int.ediv_lt_iff_lt_mul hp,show (q+1+1)*(2*b)=2*(q*b)+4*b by grind];omega
  omega
 ·rw [Int.le_ediv_iff_mul_le hp,show (q+1)*(2*b)=2*(q*b)+2*b by grind];omega
theorem dv_down {a b:Int} (hb:0<b) (h:¬ a-a / b*b≥b-(a-a / b*b)):dv a b=a / b:=by
 have e:=Int.mul_ediv_add_emod a b
 have m1:=Int.emod_nonneg a (show b ≠ 0 by omega);have m2:=Int.emod_lt_of_pos a hb
 rw [Int.mul_comm] at e
 generalize a / b=q at *
 unfold dv
 have hp:0<2*b:=by omega
 apply Int.le_antisymm
 ·have:(2*a+b) / (2*b)<q+1:=by
   rw [Int.ediv_lt_iff_lt_mul hp,show (q+1)*(2*b)=2*(q*b)+2*b by grind];omega
  omega
 ·rw [Int.le_ediv_iff_mul_le hp,show q*(2*b)=2*(q*b) by grind];omega
/-- it is off by at most a half -/
theorem dv_near (a b:Int) (hb:0<b):2*(dv a b*b)≤2*a+b∧2*a-b<2*(dv a b*b):=by
 have e:=Int.mul_ediv_add_emod a b
 have m1:=Int.emod_nonneg a (show b ≠ 0 by omega);have m2:=Int.emod_lt_of_pos a hb
 rw [Int.mul_comm] at e
 by_cases h:a-a / b*b≥b-(a-a / b*b)
 ·rw [dv_up hb h,show (a / b+1)*b=a / b*b+b by grind];omega
 ·rw [dv_down hb h];omega

theorem div_pos (k:Nat) (a b:Int) (hb:0<b) (h1:-9223372036854775808+b≤a) (h2:a≤9223372036854775807-b):num_Div.f (k+1) a b=some (dv a b):=by
 have l1:=div_lo hb (show -9223372036854775808≤a by omega);have l2:=div_hi hb (show a≤9223372036854775807 by omega)
 have e:=Int.mul_ediv_add_emod a b
 have m1:=Int.emod_nonneg a (show b ≠ 0 by omega);have m2:=Int.emod_lt_of_pos a hb
 have e':a / b*b=b*(a / b):=Int.mul_comm _ _
 have hb1:a / b+1≤9223372036854775807:=by
  have:a / b<9223372036854775807:=by
   rw [Int.ediv_lt_iff_lt_mul hb]
   have:9223372036854775807*1≤9223372036854775807*b:=Int.mul_le_mul_of_nonneg_left (by omega) (by omega)
   omega
  omega
 unfold num_Div.f
 rw [floor_pos a b hb (by omega) (by omega)];simp only [Option.bind_some]
 rw [if_neg (by omega),show (b == -1)=false from beq_eq_false_iff_ne.mpr (by omega)]
 simp only [num_Div.j0]
 rw [if_neg (by decide),if_pos hb,w_in (n:=a / b*b) (by omega) (by omega),w_in (n:=a-a / b*b) (by omega) (by omega),w_in (n:=b-(a-a / b*b)) (by omega) (by omega)]
 by_cases h:a-a / b*b≥b-(a-a / b*b)
 ·rw [if_pos h,w_in (by omega) (by omega),dv_up hb h]
 ·rw [if_neg h,if_neg (by omega),dv_down hb h]

theorem clamp_some (x lo hi:Int):num_Clamp.f x lo hi=some (min hi (max x lo)):=by
 unfold num_Clamp.f mn mx;congr 1;split <;> split <;> omega

/-! the reference's -/
theorem rfloor_pos (k:Nat) (a b:Int) (hb:0<b) (h1:-9223372036854775808≤a) (h2:a≤9223372036854775807):r01_Floor.f (k+1) a b=some (a / b):=by
 have l1:=div_lo hb h1;have l2:=div_hi hb h2
 have e:r01_Floor.j0 (k+1) a b false=some (a / b):=by
  simp only [r01_Floor.j0]
  rw [if_neg (by decide),if_neg (by omega)]
  by_cases h0:Int.tmod a b=0
  ·rw [if_pos h0,tdiv_pos (.inr h0),w_in l1 l2]
  ·rw [if_neg h0]
   by_cases ha:a<0
   ·have hm:Int.tmod a b<0:=by
     have h3:=Int.tmod_nonneg b (show 0≤-a by omega)
     rw [Int.neg_tmod] at h3;omega
    rw [if_pos (by simp only [hm,decide_true,show ¬ b<0 by omega,decide_false];rfl),tdiv_neg hb ha h0]
    have:a / b<0:=Int.ediv_neg_of_neg_of_pos ha hb
    rw [w_in (n:=a / b+1) (by omega) (by omega),Int.add_sub_cancel,w_in l1 l2]
   ·have hm:¬ Int.tmod a b<0:=by have:=Int.tmod_nonneg b (show 0≤a by omega);omega
    rw [if_neg (by simp only [hm,show ¬ b<0 by omega,decide_false];decide),tdiv_pos (.inl (by omega)),w_in l1 l2]
 unfold r01_Floor.f
 rw [if_neg (by omega),show (b == -1)=false from beq_eq_false_iff_ne.mpr (by omega),ite_self,e]
theorem rabs_some (a:Int) (h1:-9223372036854775808≤a) (h2:a≤9223372036854775807):r01_Abs.f a=some (max a (-a)):=by
 have hw:∀ n:Int,IntKind.u64.wrap n=n % 18446744073709551616:=fun _=>rfl
 unfold r01_Abs.f;simp only [hw]
 split <;> (congr 1;omega)
theorem rdiv_pos (k:Nat) (a b:Int) (hb:0<b) (h1:-9223372036854775808+b≤a) (h2:a≤9223372036854775807-b):r01_Div.f (k+1) a b=some (dv a b):=by
 have l1:=div_lo hb (show -9223372036854775808≤a by omega);have l2:=div_hi hb (show a≤9223372036854775807 by omega)
 have e:=Int.mul_ediv_add_emod a b
 have m1:=Int.emod_nonneg a (show b ≠ 0 by omega);have m2:=Int.emod_lt_of_pos a hb
 have e':a / b*b=b*(a / b):=Int.mul_comm _ _
 have hb1:a / b+1≤9223372036854775807:=by
  have:a / b<9223372036854775807:=by
   rw [Int.ediv_lt_iff_lt_mul hb]
   have:9223372036854775807*1≤9223372036854775807*b:=Int.mul_le_mul_of_nonneg_left (by omega) (by omega)
   omega
  omega
 have e2:r01_Div.j0 (k+1) a b (a / b) false=some (dv a b):=by
  simp only [r01_Div.j0]
  rw [if_neg (by decide),w_in (n:=b*(a / b)) (by omega) (by omega),w_in (n:=a-b*(a / b)) (by omega) (by omega),rabs_some _ (by omega) (by omega),rabs_some _ (by omega) (by omega)]
  simp only [Option.bind_some]
  rw [show max (a-b*(a / b)) (-(a-b*(a / b)))=a-a / b*b by omega,show max b (-b)=b by omega,u_in (n:=b-(a-a / b*b)) (by omega) (by omega)]
  by_cases h:a-a / b*b≥b-(a-a / b*b)
  ·rw [if_pos h,w_in (by omega) (by omega),dv_up hb h]
  ·rw [if_neg h,dv_down hb h]
 unfold r01_Div.f
 rw [if_neg (by omega),rfloor_pos k a b hb (by omega) (by omega)];simp only [Option.bind_some]
 rw [show (b == -1)=false from beq_eq_false_iff_ne.mpr (by omega),ite_self,e2]
theorem rclamp_some (x lo hi:Int):r01_Clamp.f x lo hi=some (min hi (max x lo)):=by
 unfold r01_Clamp.f mn mx;congr 1;split <;> split <;> omega
end Go.Proofs.Ytmlcobnidfkhfaa.Q
namespace Go.Proofs.Ytmlcobnidfkhfaa.Q
open Go.RowKit Go.Proofs.YtmlcobnidfkhfaaW.PrintWords Go.Proofs.YtmlcobnidfkhfaaW.PrintLast Go.Proofs.YtmlcobnidfkhfaaW.PrintMore
set_option linter.unusedVariables false
set_option linter.unusedSimpArgs false

theorem w_q (x:Int):∃ q,wrap64 x=x-18446744073709551616*q:=⟨(x+9223372036854775808) / 18446744073709551616,by unfold wrap64;omega⟩
theorem w_of (x q:Int):wrap64 (x-18446744073709551616*q)=wrap64 x:=by unfold wrap64;omega
theorem w_addl (x y:Int):wrap64 (wrap64 x+y)=wrap64 (x+y):=by unfold wrap64;omega
theorem w_addr (x y:Int):wrap64 (x+wrap64 y)=wrap64 (x+y):=by unfold wrap64;omega
theorem w_subl (x y:Int):wrap64 (wrap64 x-y)=wrap64 (x-y):=by unfold wrap64;omega
theorem w_subr (x y:Int):wrap64 (x-wrap64 y)=wrap64 (x-y):=by unfold wrap64;omega
theorem w_neg (x:Int):wrap64 (-wrap64 x)=wrap64 (-x):=by unfold wrap64;omega
theorem w_w (x:Int):wrap64 (wrap64 x)=wrap64 x:=by unfold wrap64;omega
theorem w_mull (x y:Int):wrap64 (wrap64 x*y)=wrap64 (x*y):=by
 obtain ⟨q,hq⟩:=w_q x
 rw [hq,show (x-18446744073709551616*q)*y=x*y-18446744073709551616*(q*y) by grind,w_of]
theorem w_mulr (x y:Int):wrap64 (x*wrap64 y)=wrap64 (x*y):=by
 rw [Int.mul_comm,w_mull,Int.mul_comm]

/-- a product's bounds out of its factors' -/
theorem mul_bd {a b A B:Int} (ha:-A≤a∧a≤A) (hb:-B≤b∧b≤B):-(A*B)≤a*b∧a*b≤A*B:=by
 have h1:0≤(A-a)*(B-b):=Int.mul_nonneg (by omega) (by omega)
 have h2:0≤(A+a)*(B+b):=Int.mul_nonneg (by omega) (by omega)
 have h3:0≤(A-a)*(B+b):=Int.mul_nonneg (by omega) (by omega)
 have h4:0≤(A+a)*(B-b):=Int.mul_nonneg (by omega) (by omega)
 have e1:(A-a)*(B-b)=A*B-A*b-a*B+a*b:=by grind
 have e2:(A+a)*(B+b)=A*B+A*b+a*B+a*b:=by grind
 have e3:(A-a)*(B+b)=A*B+A*b-a*B-a*b:=by grind
 have e4:(A+a)*(B-b)=A*B-A*b+a*B-a*b:=by grind
 omega
end Go.Proofs.Ytmlcobnidfkhfaa.Q
namespace Go.Proofs.Ytmlcobnidfkhfaa.Q
open Go.RowKit Go.Proofs.YtmlcobnidfkhfaaW.PrintWords Go.Proofs.YtmlcobnidfkhfaaW.PrintLast Go.Proofs.YtmlcobnidfkhfaaW.PrintMore
set_option linter.unusedVariables false
set_option linter.unusedSimpArgs false

/-- the parameters from place i on are within bounds -/
def Rg (l:List Int) (i:Int):Prop:=∀ j:Int,i≤j→j<l.length→-1048576≤rd l j∧rd l j≤1048576
/-- the third parameter of a radial or a diamond gradient is negative -/
def Ng (kind:Int) (l:List Int):Prop:=(kind=2 ∨ kind=4)∧rd l 2<0
instance (kind:Int) (l:List Int):Decidable (Ng kind l):=by unfold Ng;infer_instance
theorem rg_cons {l:List Int} {i:Int} (h:-1048576≤rd l i∧rd l i≤1048576) (g:Rg l (i+1)):Rg l i:=fun j a b=>by
 by_cases e:j=i
 ·subst e;exact h
 ·exact g j (by omega) b
theorem rg_tail {l:List Int} {i:Int} (g:Rg l i):Rg l (i+1):=fun j a b=>g j (by omega) b
def endp (kind:Int) (l:List Int) (a b c:Int):Int × Int × Int:=if Ng kind l then (a,b,2) else (a,b,c)
theorem params_end (k:Nat) (kind:Int) (l m:List Int) (a b c n:Int) (hl:3≤(l.length:Int)):gr_params.l0 (k+1) kind l a b c m n n=some (endp kind l a b c):=by
 simp only [gr_params.l0,endp]
 rw [if_neg (by omega)]
 by_cases h2:kind=2
 ·rw [if_pos h2,if_pos (by omega)]
  by_cases h:rd l 2<0
  ·rw [if_pos h,if_pos (show Ng kind l from ⟨.inl h2,h⟩)]
  ·rw [if_neg h,if_neg (fun g:Ng kind l=>h g.2)]
 ·rw [if_neg h2]
  by_cases h4:kind=4
  ·rw [if_pos h4,if_pos (by omega)]
   by_cases h:rd l 2<0
   ·rw [if_pos h,if_pos (show Ng kind l from ⟨.inr h4,h⟩)]
   ·rw [if_neg h,if_neg (fun g:Ng kind l=>h g.2)]
  ·rw [if_neg h4,if_neg (fun g:Ng kind l=>by have:=g.1;omega)]
theorem params_l (kind:Int) (l:List Int) (a b:Int) (hl:3≤(l.length:Int)) (hl2:l.length≤100) (d:Nat):∀ (k:Nat) (c i:Int),0≤i→i+d=l.length →
  (Rg l i∧gr_params.l0 (k+d+1) kind l a b c l (l.length:Int) i=some (endp kind l a b c)) ∨ (¬ Rg l i∧gr_params.l0 (k+d+1) kind l a b c l (l.length:Int) i=some (endp kind l a b 2)):=by
 induction d with
 | zero =>
  intro k c i h0 h1
  obtain rfl:i=l.length:=by omega
  exact .inl ⟨fun j a b=>by omega,params_end _ _ _ _ _ _ _ _ hl⟩
 | succ d ih =>
  intro k c i h0 h1
  rw [show k+(d+1)+1=k+d+1+1 by omega,gr_params.l0]
  rw [if_pos (by omega),if_pos h0,if_pos (by omega),w_in (n:=i+1) (by omega) (by omega)]
  have bad:(-1048576≤rd l i∧rd l i≤1048576→False)→(Rg l i∧gr_params.l0 (k+d+1) kind l a b 2 l (l.length:Int) (i+1)=some (endp kind l a b c)) ∨ (¬ Rg l i∧gr_params.l0 (k+d+1) kind l a b 2 l (l.length:Int) (i+1)=some (endp kind l a b 2)):=by
   intro h
   refine .inr ⟨fun g=>h (g i (Int.le_refl _) (by omega)),?_⟩
   rcases ih k 2 (i+1) (by omega) (by omega) with ⟨_,e⟩|⟨_,e⟩ <;> exact e
  by_cases c1:rd l i < -1048576
  ·rw [if_pos c1];exact bad fun h=>by omega
  rw [if_neg c1]
  by_cases c2:rd l i>1048576
  ·rw [if_pos c2];exact bad fun h=>by omega
  rw [if_neg c2]
  rcases ih k c (i+1) (by omega) (by omega) with ⟨g,e⟩|⟨g,e⟩
  ·exact .inl ⟨rg_cons ⟨by omega,by omega⟩ g,e⟩
  ·exact .inr ⟨fun h=>g (rg_tail h),e⟩

def Kok (kind spread:Int):Prop:=1≤kind∧kind≤4∧0≤spread∧spread≤2
def Lok (kind:Int) (l:List Int):Prop:=(kind=1→(l.length:Int)=4)∧(kind ≠ 1→(l.length:Int)=3)
def Vok (kind:Int) (l:List Int):Prop:=Rg l 0∧¬ Ng kind l
theorem params_two (k:Nat) (kind:Int) (l:List Int) (a want:Int) (hw:(kind=1→want=4)∧(kind ≠ 1→want=3)) :
  ∃ en ev,gr_params.j2 (k+6) kind l a 0 0 want=some (a,en,ev)∧(¬ Lok kind l∧en=1∧ev=0 ∨ Lok kind l∧en=0∧(Vok kind l∧ev=0 ∨ ¬ Vok kind l∧ev=2)):=by
 simp only [gr_params.j2]
 by_cases c:(l.length:Int)=want
 ·rw [if_pos c]
  have hL:Lok kind l:=⟨fun h=>by have:=hw.1 h;omega,fun h=>by have:=hw.2 h;omega⟩
  have hw':want=3 ∨ want=4:=by
   by_cases h:kind=1
   ·exact .inr (hw.1 h)
   ·exact .inl (hw.2 h)
  obtain ⟨d,k',e,hd⟩:∃ (d k':Nat),k+5=k'+d+1∧(0:Int)+d=l.length:=by
   rcases hw' with h|h
   ·exact ⟨3,k+1,by omega,by omega⟩
   ·exact ⟨4,k,by omega,by omega⟩
  rw [e]
  rcases params_l kind l a 0 (by omega) (by omega) d k' 0 0 (Int.le_refl _) hd with ⟨g,h⟩|⟨g,h⟩
  ·rw [h];unfold endp
   by_cases n:Ng kind l
   ·rw [if_pos n];exact ⟨0,2,rfl,.inr ⟨hL,rfl,.inr ⟨fun v=>v.2 n,rfl⟩⟩⟩
   ·rw [if_neg n];exact ⟨0,0,rfl,.inr ⟨hL,rfl,.inl ⟨⟨g,n⟩,rfl⟩⟩⟩
  ·rw [h];unfold endp
   refine ⟨0,2,by split <;> rfl,.inr ⟨hL,rfl,.inr ⟨fun v=>g v.1,rfl⟩⟩⟩
 ·rw [if_neg c]
  refine ⟨1,0,rfl,.inl ⟨fun h=>?_,rfl,rfl⟩⟩
  by_cases k1:kind=1
  ·exact c ((h.1 k1).trans (hw.1 k1).symm)
  ·exact c ((h.2 k1).trans (hw.2 k1).symm)
theorem params_some (k:Nat) (kind:Int) (l:List Int) (spread:Int) :
  ∃ ek en ev,gr_params.f (k+8) kind l spread=some (ek,en,ev)∧(Kok kind spread∧ek=0 ∨ ¬ Kok kind spread∧ek=8)∧(¬ Lok kind l∧en=1∧ev=0 ∨ Lok kind l∧en=0∧(Vok kind l∧ev=0 ∨ ¬ Vok kind l∧ev=2)):=by
 have main:∀ a want,(kind=1→want=4)∧(kind ≠ 1→want=3)→∃ en ev,gr_params.j0 (k+8) kind l spread a 0 0 want=some (if 0≤spread∧spread≤2 then a else 8,en,ev)∧(¬ Lok kind l∧en=1∧ev=0 ∨ Lok kind l∧en=0∧(Vok kind l∧ev=0 ∨ ¬ Vok kind l∧ev=2)):=by
  intro a want hw
  simp only [gr_params.j0,gr_params.j1]
  by_cases c:spread<0
  ·rw [if_pos c,if_pos trivial,if_neg (by omega)];exact params_two k kind l 8 want hw
  ·rw [if_neg c]
   by_cases c2:spread>2
   ·rw [if_pos (decide_eq_true c2),if_neg (by omega)];exact params_two k kind l 8 want hw
   ·rw [if_neg (by simpa using c2),if_pos (by omega)];exact params_two k kind l a want hw
 unfold gr_params.f
 have fin:∀ a want,(kind=1→want=4)∧(kind ≠ 1→want=3)→(1≤kind∧kind≤4∧a=0 ∨ ¬ (1≤kind∧kind≤4)∧a=8)→∃ ek en ev,gr_params.j0 (k+8) kind l spread a 0 0 want=some (ek,en,ev)∧(Kok kind spread∧ek=0 ∨ ¬ Kok kind spread∧ek=8)∧(¬ Lok kind l∧en=1∧ev=0 ∨ Lok kind l∧en=0∧(Vok kind l∧ev=0 ∨ ¬ Vok kind l∧ev=2)):=by
  intro a want hw ha
  obtain ⟨en,ev,h1,h2⟩:=main a want hw
  refine ⟨_,en,ev,h1,?_,h2⟩
  by_cases c:0≤spread∧spread≤2
  ·rw [if_pos c]
   rcases ha with ⟨x,y,z⟩|⟨x,z⟩
   ·exact .inl ⟨⟨x,y,c⟩,z⟩
   ·exact .inr ⟨fun h=>x ⟨h.1,h.2.1⟩,z⟩
  ·rw [if_neg c];exact .inr ⟨fun h=>c h.2.2,rfl⟩
 by_cases k1:kind=1
 ·rw [if_pos k1];exact fin 0 4 (by omega) (by omega)
 rw [if_neg k1]
 by_cases k2:kind=2
 ·rw [if_pos k2];exact fin 0 3 (by omega) (by omega)
 rw [if_neg k2]
 by_cases k3:kind=3
 ·rw [if_pos k3];exact fin 0 3 (by omega) (by omega)
 rw [if_neg k3]
 by_cases k4:kind=4
 ·rw [if_pos k4];exact fin 0 3 (by omega) (by omega)
 rw [if_neg k4];exact fin 8 3 (by omega) (by omega)

/-! the reference's -/
theorem head_some (k:Nat) (kind:Int) (l:List Int) (spread:Int):(Kok kind spread∧Lok kind l∧r18_head.f (k+1) kind l spread=some 0) ∨ (Kok kind spread∧¬ Lok kind l∧r18_head.f (k+1) kind l spread=some 1) ∨ (¬ Kok kind spread∧r18_head.f (k+1) kind l spread=some 8):=by
 unfold r18_head.f Kok Lok
 simp only [r18_head.j0]
 by_cases c1:kind<1
 ·rw [if_pos c1,if_pos trivial];exact .inr (.inr ⟨by omega,rfl⟩)
 rw [if_neg c1]
 by_cases c2:kind>4
 ·rw [if_pos c2,if_pos trivial];exact .inr (.inr ⟨by omega,rfl⟩)
 rw [if_neg c2]
 by_cases c3:spread<0
 ·rw [if_pos c3,if_pos trivial];exact .inr (.inr ⟨by omega,rfl⟩)
 rw [if_neg c3]
 by_cases c4:spread>2
 ·rw [if_pos (decide_eq_true c4)];exact .inr (.inr ⟨by omega,rfl⟩)
 rw [if_neg (by simpa using c4)]
 by_cases k1:kind=1
 ·rw [if_pos k1]
  by_cases h:(l.length:Int)=4
  ·rw [if_pos h];exact .inl ⟨by omega,by omega,rfl⟩
  ·rw [if_neg h];exact .inr (.inl ⟨by omega,by omega,rfl⟩)
 ·rw [if_neg k1]
  by_cases h:(l.length:Int)=3
  ·rw [if_pos h];exact .inl ⟨by omega,by omega,rfl⟩
  ·rw [if_neg h];exact .inr (.inl ⟨by omega,by omega,rfl⟩)
theorem numbers_l (kind:Int) (l:List Int) (hl:3≤(l.length:Int)) (hl2:l.length≤100) (d:Nat):∀ (k:Nat) (i:Int),0≤i→i+d=l.length →
  (Rg l i∧¬ Ng kind l∧r18_numbers.l0 (k+d+1) kind l (l.length:Int) i=some 0) ∨ (¬ (Rg l i∧¬ Ng kind l)∧r18_numbers.l0 (k+d+1) kind l (l.length:Int) i=some 2):=by
 induction d with
 | zero =>
  intro k i h0 h1
  obtain rfl:i=l.length:=by omega
  simp only [r18_numbers.l0]
  rw [if_neg (by omega)]
  have R:Rg l (l.length:Int):=fun j a b=>by omega
  by_cases h2:kind=2
  ·rw [if_pos h2,if_pos (by omega)]
   by_cases h:rd l 2<0
   ·rw [if_pos h];exact .inr ⟨fun g=>g.2 ⟨.inl h2,h⟩,rfl⟩
   ·rw [if_neg h];exact .inl ⟨R,fun g=>h g.2,rfl⟩
  ·rw [if_neg h2]
   by_cases h4:kind=4
   ·rw [if_pos h4,if_pos (by omega)]
    by_cases h:rd l 2<0
    ·rw [if_pos h];exact .inr ⟨fun g=>g.2 ⟨.inr h4,h⟩,rfl⟩
    ·rw [if_neg h];exact .inl ⟨R,fun g=>h g.2,rfl⟩
   ·rw [if_neg h4];exact .inl ⟨R,fun g=>by have:=g.1;omega,rfl⟩
 | succ d ih =>
  intro k i h0 h1
  rw [show k+(d+1)+1=k+d+1+1 by omega,r18_numbers.l0]
  rw [if_pos (by omega),if_pos h0,if_pos (by omega),w_in (n:=i+1) (by omega) (by omega)]
  by_cases c1:rd l i < -1048576
  ·rw [if_pos c1];exact .inr ⟨fun g=>by have:=g.1 i (Int.le_refl _) (by omega);omega,rfl⟩
  rw [if_neg c1]
  by_cases c2:rd l i>1048576
  ·rw [if_pos c2];exact .inr ⟨fun g=>by have:=g.1 i (Int.le_refl _) (by omega);omega,rfl⟩
  rw [if_neg c2]
  rcases ih k (i+1) (by omega) (by omega) with ⟨g,n,e⟩|⟨g,e⟩
  ·exact .inl ⟨rg_cons ⟨by omega,by omega⟩ g,n,e⟩
  ·exact .inr ⟨fun h=>g ⟨rg_tail h.1,h.2⟩,e⟩
theorem numbers_some (k:Nat) (kind:Int) (l:List Int) (hL:Lok kind l):(Vok kind l∧r18_numbers.f (k+5) kind l=some 0) ∨ (¬ Vok kind l∧r18_numbers.f (k+5) kind l=some 2):=by
 have hw':(l.length:Int)=3 ∨ (l.length:Int)=4:=by
  by_cases h:kind=1
  ·exact .inr (hL.1 h)
  ·exact .inl (hL.2 h)
 obtain ⟨d,k',e,hd⟩:∃ (d k':Nat),k+5=k'+d+1∧(0:Int)+d=l.length:=by
  rcases hw' with h|h
  ·exact ⟨3,k+1,by omega,by omega⟩
  ·exact ⟨4,k,by omega,by omega⟩
 unfold r18_numbers.f Vok
 rw [e]
 rcases numbers_l kind l (by omega) (by omega) d k' 0 (Int.le_refl _) hd with ⟨g,n,h⟩|⟨g,h⟩
 ·exact .inl ⟨⟨g,n⟩,h⟩
 ·exact .inr ⟨g,h⟩
end Go.Proofs.Ytmlcobnidfkhfaa.Q
namespace Go.Proofs.Ytmlcobnidfkhfaa.Q
open Go.RowKit Go.Proofs.YtmlcobnidfkhfaaW.PrintWords Go.Proofs.YtmlcobnidfkhfaaW.PrintLast Go.Proofs.YtmlcobnidfkhfaaW.PrintMore
set_option linter.unusedVariables false
set_option linter.unusedSimpArgs false

theorem w_bd (n:Int):-9223372036854775808≤wrap64 n∧wrap64 n≤9223372036854775807:=by unfold wrap64;omega
theorem mx_max (a b:Int):mx a b=max a b:=by unfold mx;split <;> omega
theorem modulo_some (x n:Int) (hn:0<n∧n≤1000000) (hx:-9223372036854775808≤x∧x≤9223372036854775807):gr_modulo.f x n=some (x % n):=by
 have e:=Int.mul_ediv_add_emod x n
 have m1:=Int.emod_nonneg x (show n ≠ 0 by omega);have m2:=Int.emod_lt_of_pos x hn.1
 have e2:x / n*n=n*(x / n):=Int.mul_comm _ _
 unfold gr_modulo.f
 rw [floor_pos x n hn.1 hx.1 hx.2]
 simp only [Option.bind_some]
 rw [w_subr,e2,w_in (by omega) (by omega)]
 congr 1;omega
theorem mod_some (k:Nat) (x n:Int) (hn:0<n∧n≤1000000) (hx:-9223372036854775808≤x∧x≤9223372036854775807):r18_mod.f (k+1) x n=some (x % n):=by
 have e:=Int.mul_ediv_add_emod x n
 have m1:=Int.emod_nonneg x (show n ≠ 0 by omega);have m2:=Int.emod_lt_of_pos x hn.1
 unfold r18_mod.f
 rw [rfloor_pos k x n hn.1 hx.1 hx.2]
 simp only [Option.bind_some]
 rw [w_subr,w_in (by omega) (by omega)]
 congr 1;omega
theorem abs_some (x:Int) (hx:-9223372036854775807≤x∧x≤9223372036854775807):gr_abs.f x=some (max x (-x)):=by
 unfold gr_abs.f
 rw [w_in (n:=-x) (by omega) (by omega),mx_max]
theorem rabs_some' (x:Int) (hx:-9223372036854775807≤x∧x≤9223372036854775807):r18_abs.f x=some (max x (-x)):=by
 unfold r18_abs.f
 by_cases c:x<0
 ·rw [if_pos c,w_in (n:=-x) (by omega) (by omega)];congr 1;omega
 ·rw [if_neg c];congr 1;omega
theorem div_zero (k:Nat) (a:Int):num_Div.f (k+1) a 0=some 0:=by
 unfold num_Div.f num_Floor.f
 simp [num_Div.j0]
theorem rdiv_zero (k:Nat) (a:Int):r01_Div.f (k+1) a 0=some 0:=by
 unfold r01_Div.f
 simp
end Go.Proofs.Ytmlcobnidfkhfaa.Q
namespace Go.Proofs.Ytmlcobnidfkhfaa.Q
open Go.RowKit Go.Proofs.YtmlcobnidfkhfaaW.PrintWords Go.Proofs.YtmlcobnidfkhfaaW.PrintLast Go.Proofs.YtmlcobnidfkhfaaW.PrintMore
set_option linter.unusedVariables false
set_option linter.unusedSimpArgs false

theorem ofInt_nat {n:Int} (h:0≤n∧n<18446744073709551616):(BitVec.ofInt IntKind.u64.bits n).toNat=n.toNat:=by
 rw [BitVec.toNat_ofInt]
 have:((2 ^ IntKind.u64.bits:Nat):Int)=18446744073709551616:=by decide
 rw [this,Int.emod_eq_of_lt h.1 h.2]
theorem and_low {n:Int} (h:0≤n∧n<18446744073709551616):Go.bits .and .u64 n 4294967295=n % 4294967296:=by
 simp only [bits]
 have e:(BitVec.ofInt IntKind.u64.bits n &&& BitVec.ofInt IntKind.u64.bits 4294967295).toNat=(n % 4294967296).toNat:=by
  rw [BitVec.toNat_and,ofInt_nat h]
  have h1:(BitVec.ofInt IntKind.u64.bits 4294967295).toNat=2 ^ 32-1:=by decide
  rw [h1,Nat.and_two_pow_sub_one_eq_mod]
  omega
 rw [e]
 rw [u_in (by omega) (by omega)]
 omega
/-- or of two numbers -/
theorem or_nat {a b:Int} (ha:0≤a∧a<18446744073709551616) (hb:0≤b∧b<18446744073709551616):Go.bits .or .u64 a b=((a.toNat ||| b.toNat:Nat):Int):=by
 simp only [bits]
 have e:(BitVec.ofInt IntKind.u64.bits a ||| BitVec.ofInt IntKind.u64.bits b).toNat=a.toNat ||| b.toNat:=by
  rw [BitVec.toNat_or,ofInt_nat ha,ofInt_nat hb]
 have l:a.toNat ||| b.toNat<2 ^ 64:=Nat.or_lt_two_pow (by omega) (by omega)
 rw [e,u_in (by omega) (by omega)]

theorem u_mod (n:Int):IntKind.u64.wrap n=n % 18446744073709551616:=rfl
/-- or of a multiple of 2^32 and a number below it is their sum -/
theorem or_disj {a b:Int} (ha:0≤a∧a<4294967296) (hb:0≤b∧b<4294967296):Go.bits .or .u64 (a*4294967296) b=a*4294967296+b:=by
 rw [or_nat (by omega) (by omega)]
 have e1:(a*4294967296).toNat=2 ^ 32*a.toNat:=by omega
 have e2:2 ^ 32*a.toNat ||| b.toNat=2 ^ 32*a.toNat+b.toNat:=(Nat.two_pow_add_eq_or_of_lt (by omega) a.toNat).symm
 rw [e1,e2]
 omega

/-- the two words of a product -/
theorem times_some {a b:Int} (ha:0≤a∧a<18446744073709551616) (hb:0≤b∧b<18446744073709551616):num_times.f a b=some (a*b / 18446744073709551616,a*b % 18446744073709551616):=by
 have h1:0≤a / 4294967296∧a / 4294967296≤4294967295:=by omega
 have h2:0≤b / 4294967296∧b / 4294967296≤4294967295:=by omega
 have h3:0≤a % 4294967296∧a % 4294967296≤4294967295:=by omega
 have h4:0≤b % 4294967296∧b % 4294967296≤4294967295:=by omega
 have p0:=mul_bd (A:=4294967295) (B:=4294967295) (a:=a % 4294967296) (b:=b % 4294967296) (by omega) (by omega)
 have p1:=mul_bd (A:=4294967295) (B:=4294967295) (a:=a / 4294967296) (b:=b % 4294967296) (by omega) (by omega)
 have p2:=mul_bd (A:=4294967295) (B:=4294967295) (a:=a % 4294967296) (b:=b / 4294967296) (by omega) (by omega)
 have p3:=mul_bd (A:=4294967295) (B:=4294967295) (a:=a / 4294967296) (b:=b / 4294967296) (by omega) (by omega)
 have n0:0≤a % 4294967296*(b % 4294967296):=Int.mul_nonneg h3.1 h4.1
 have n1:0≤a / 4294967296*(b % 4294967296):=Int.mul_nonneg h1.1 h4.1
 have n2:0≤a % 4294967296*(b / 4294967296):=Int.mul_nonneg h3.1 h2.1
 have n3:0≤a / 4294967296*(b / 4294967296):=Int.mul_nonneg h1.1 h2.1
 have ea:a=a / 4294967296*4294967296+a % 4294967296:=by omega
 have eb:b=b / 4294967296*4294967296+b % 4294967296:=by omega
 have id:a*b=a / 4294967296*(b / 4294967296)*18446744073709551616+(a / 4294967296*(b % 4294967296)+a % 4294967296*(b / 4294967296))*4294967296+a % 4294967296*(b % 4294967296):=by
  generalize a / 4294967296=x at *
  generalize a % 4294967296=y at *
  generalize b / 4294967296=z at *
  generalize b % 4294967296=t at *
  rw [ea,eb];grind
 unfold num_times.f
 rw [and_low ha,and_low hb]
 generalize a / 4294967296*(b / 4294967296)=P3 at *
 generalize a / 4294967296*(b % 4294967296)=P1 at *
 generalize a % 4294967296*(b / 4294967296)=P2 at *
 generalize a % 4294967296*(b % 4294967296)=P0 at *
 rw [u_in (n:=P0) (by omega) (by omega),u_in (n:=P3) (by omega) (by omega),u_in (n:=P1) (by omega) (by omega),u_in (n:=P2) (by omega) (by omega),u_in (n:=P1+P0 / 4294967296) (by omega) (by omega)]
 rw [and_low (n:=P1+P0 / 4294967296) (by omega),and_low (n:=P0) (by omega)]
 rw [u_in (n:=P2+(P1+P0 / 4294967296) % 4294967296) (by omega) (by omega),u_in (n:=P3+(P1+P0 / 4294967296) / 4294967296) (by omega) (by omega),u_in (n:=P3+(P1+P0 / 4294967296) / 4294967296+(P2+(P1+P0 / 4294967296) % 4294967296) / 4294967296) (by omega) (by omega)]
 rw [u_mod,show (P2+(P1+P0 / 4294967296) % 4294967296)*4294967296 % 18446744073709551616=(P2+(P1+P0 / 4294967296) % 4294967296) % 4294967296*4294967296 by omega,or_disj (by omega) (by omega)]
 rw [id]
 congr 2 <;> omega
/-- the reference's -/
theorem product_some {a b:Int} (ha:0≤a∧a<18446744073709551616) (hb:0≤b∧b<18446744073709551616):r01_Product.f a b=some (a*b / 18446744073709551616,a*b % 18446744073709551616):=by
 have h1:0≤a / 4294967296∧a / 4294967296≤4294967295:=by omega
 have h2:0≤b / 4294967296∧b / 4294967296≤4294967295:=by omega
 have h3:0≤a % 4294967296∧a % 4294967296≤4294967295:=by omega
 have h4:0≤b % 4294967296∧b % 4294967296≤4294967295:=by omega
 have p0:=mul_bd (A:=4294967295) (B:=4294967295) (a:=a % 4294967296) (b:=b % 4294967296) (by omega) (by omega)
 have p1:=mul_bd (A:=4294967295) (B:=4294967295) (a:=a / 4294967296) (b:=b % 4294967296) (by omega) (by omega)
 have p2:=mul_bd (A:=4294967295) (B:=4294967295) (a:=a % 4294967296) (b:=b / 4294967296) (by omega) (by omega)
 have p3:=mul_bd (A:=4294967295) (B:=4294967295) (a:=a / 4294967296) (b:=b / 4294967296) (by omega) (by omega)
 have n0:0≤a % 4294967296*(b % 4294967296):=Int.mul_nonneg h3.1 h4.1
 have n1:0≤a / 4294967296*(b % 4294967296):=Int.mul_nonneg h1.1 h4.1
 have n2:0≤a % 4294967296*(b / 4294967296):=Int.mul_nonneg h3.1 h2.1
 have n3:0≤a / 4294967296*(b / 4294967296):=Int.mul_nonneg h1.1 h2.1
 have ea:a=a / 4294967296*4294967296+a % 4294967296:=by omega
 have eb:b=b / 4294967296*4294967296+b % 4294967296:=by omega
 have id:a*b=a / 4294967296*(b / 4294967296)*18446744073709551616+(a / 4294967296*(b % 4294967296)+a % 4294967296*(b / 4294967296))*4294967296+a % 4294967296*(b % 4294967296):=by
  generalize a / 4294967296=x at *
  generalize a % 4294967296=y at *
  generalize b / 4294967296=z at *
  generalize b % 4294967296=t at *
  rw [ea,eb];grind
 unfold r01_Product.f
 rw [and_low ha,and_low hb]
 generalize a / 4294967296*(b / 4294967296)=P3 at *
 generalize a / 4294967296*(b % 4294967296)=P1 at *
 generalize a % 4294967296*(b / 4294967296)=P2 at *
 generalize a % 4294967296*(b % 4294967296)=P0 at *
 rw [u_in (n:=P0) (by omega) (by omega),u_in (n:=P3) (by omega) (by omega),u_in (n:=P1) (by omega) (by omega),u_in (n:=P2) (by omega) (by omega),u_in (n:=P1+P0 / 4294967296) (by omega) (by omega)]
 rw [and_low (n:=P1+P0 / 4294967296) (by omega)]
 rw [u_in (n:=P2+(P1+P0 / 4294967296) % 4294967296) (by omega) (by omega),u_in (n:=P3+(P1+P0 / 4294967296) / 4294967296) (by omega) (by omega),u_in (n:=P3+(P1+P0 / 4294967296) / 4294967296+(P2+(P1+P0 / 4294967296) % 4294967296) / 4294967296) (by omega) (by omega)]
 rw [u_mod,id]
 congr 2;omega

theorem sq_small {r N:Int} (h0:0≤r) (h:r*r≤N) (hN:N<4611686018427387904):r<2147483648:=by
 refine Int.not_le.mp fun c=>?_
 have:=Int.mul_le_mul c c (by omega) h0
 omega
theorem or_bd {a b:Int} (ha:0≤a∧a<18446744073709551616) (hb:0≤b∧b<18446744073709551616):0≤Go.bits .or .u64 a b∧Go.bits .or .u64 a b<18446744073709551616:=by
 rw [or_nat ha hb]
 have l:a.toNat ||| b.toNat<2 ^ 64:=Nat.or_lt_two_pow (by omega) (by omega)
 omega
def pw:Nat→Int
 | 0=>1
 | e+1=>2*pw e
theorem pw_bd {e:Nat} (h:e≤62):0<pw e∧pw e≤4611686018427387904:=(show ∀ e:Nat,e<63→0<pw e∧pw e≤4611686018427387904 by decide) e (by omega)
/-- the root, bit by bit: the program's and the reference's loops tell the same -/
theorem root_l {N:Int} (hN0:0≤N) (hN:N<4611686018427387904) (e:Nat):∀ (k:Nat) (r bit:Int),bit=pw e→e≤63→0≤r→r*r≤N →
  ∃ R,num_root.l0 (k+e+2) 0 N r bit=some R∧r01_Hypot.l0 (k+e+2) N 0 r bit=some R∧0≤R∧R*R≤N:=by
 have fin:∀ (k:Nat) (r:Int),0≤r→r*r≤N→∃ R,num_root.l0 (k+1) 0 N r 0=some R∧r01_Hypot.l0 (k+1) N 0 r 0=some R∧0≤R∧R*R≤N:=by
  intro k r h0 h
  have hr:=sq_small h0 h hN
  refine ⟨r,?_,?_,h0,h⟩
  ·simp only [num_root.l0];rw [if_neg (by omega),w_in (by omega) (by omega)]
  ·simp only [r01_Hypot.l0,r01_signed.f]
   rw [if_neg (by omega),if_neg (by decide),if_neg (by omega),if_neg (by omega),w_in (by omega) (by omega)];rfl
 have step:∀ (k:Nat) (r bit:Int),0<bit→bit<18446744073709551616→0≤r→r*r≤N→∃ r',0≤r'∧r'*r'≤N∧num_root.l0 (k+1) 0 N r bit=num_root.l0 k 0 N r' (bit / 2)∧r01_Hypot.l0 (k+1) N 0 r bit=r01_Hypot.l0 k N 0 r' (bit / 2):=by
  intro k r bit b0 b1 h0 h
  have hr:=sq_small h0 h hN
  have s:=or_bd (a:=r) (b:=bit) (by omega) (by omega)
  simp only [num_root.l0,r01_Hypot.l0]
  rw [if_pos b0,if_pos b0,times_some s s,product_some s s]
  simp only [Option.bind_some]
  generalize Go.bits .or .u64 r bit=S at *
  have hS:0≤S*S:=Int.mul_nonneg s.1 s.1
  have c0:¬ S*S / 18446744073709551616<0:=by omega
  simp only [if_neg c0]
  by_cases c:S*S / 18446744073709551616=0
  ·simp only [if_pos c]
   by_cases c2:S*S % 18446744073709551616≤N
   ·simp only [if_pos c2];exact ⟨S,s.1,by omega,rfl,rfl⟩
   ·simp only [if_neg c2];exact ⟨r,h0,h,rfl,rfl⟩
  ·simp only [if_neg c];exact ⟨r,h0,h,rfl,rfl⟩
 induction e with
 | zero =>
  intro k r bit hb he h0 h
  obtain rfl:bit=1:=hb
  obtain ⟨r',h0',h',e1,e2⟩:=step (k+1) r 1 (by omega) (by omega) h0 h
  obtain ⟨R,f1,f2,f3⟩:=fin k r' h0' h'
  exact ⟨R,e1.trans f1,e2.trans f2,f3⟩
 | succ e ih =>
  intro k r bit hb he h0 h
  have hp:=pw_bd (e:=e) (by omega)
  have hb':bit=2*pw e:=hb
  obtain ⟨r',h0',h',e1,e2⟩:=step (k+e+2) r bit (by omega) (by omega) h0 h
  obtain ⟨R,f1,f2,f3⟩:=ih k r' (bit / 2) (by omega) (by omega) h0' h'
  exact ⟨R,(show k+(e+1)+2=k+e+2+1 by omega) ▸ e1.trans f1,(show k+(e+1)+2=k+e+2+1 by omega) ▸ e2.trans f2,f3⟩

theorem u_bits (x y:Int) (h:-1073741824≤x∧x≤1073741824) (g:-1073741824≤y∧y≤1073741824):0≤x*x∧x*x≤1152921504606846976:=by
 have:=mul_bd (A:=1073741824) (B:=1073741824) (a:=x) (b:=x) (by omega) (by omega)
 have h2:0≤x*x:=by
  rcases Int.le_total 0 x with c|c
  ·exact Int.mul_nonneg c c
  ·exact Int.mul_nonneg_of_nonpos_of_nonpos c c
 omega
theorem size_some (x:Int) (h:-1073741824≤x∧x≤1073741824):num_size.f x=some (max x (-x)):=by
 have hw:∀ n:Int,IntKind.u64.wrap n=n % 18446744073709551616:=fun _=>rfl
 unfold num_size.f;simp only [hw]
 split <;> (congr 1;omega)
theorem max_sq (x:Int):max x (-x)*max x (-x)=x*x:=by
 rcases Int.le_total 0 x with c|c
 ·rw [show max x (-x)=x by omega]
 ·rw [show max x (-x) = -x by omega];grind
theorem pw62:(4611686018427387904:Int)=pw 62:=by decide
theorem root_at {N:Int} (hN:0≤N∧N<4611686018427387904) (k:Nat):∃ R,num_root.l0 (k+62+2) 0 N 0 4611686018427387904=some R∧r01_Hypot.l0 (k+62+2) N 0 0 4611686018427387904=some R∧0≤R∧R*R≤N :=
 root_l hN.1 hN.2 62 k 0 4611686018427387904 pw62 (by omega) (by omega) (by omega)
theorem up1 {N R:Int} (K:Nat) (r1:num_root.l0 K 0 N 0 4611686018427387904=some R) (k:Nat):num_root.l0 (k+K) 0 N 0 4611686018427387904=some R:=by
 induction k with
 | zero=>rw [Nat.zero_add];exact r1
 | succ k ih=>rw [show k+1+K=k+K+1 by omega];exact (num_root.mono_l (k+K)) _ _ _ _ _ ih
theorem up2 {N R:Int} (K:Nat) (r1:r01_Hypot.l0 K N 0 0 4611686018427387904=some R) (k:Nat):r01_Hypot.l0 (k+K) N 0 0 4611686018427387904=some R:=by
 induction k with
 | zero=>rw [Nat.zero_add];exact r1
 | succ k ih=>rw [show k+1+K=k+K+1 by omega];exact (r01_Hypot.mono_l (k+K)).2 _ _ _ _ _ ih
theorem wz:IntKind.u64.wrap (0+0)=0:=u_in (by omega) (by omega)
theorem hypot_1 {x y N R:Int} (hN:0≤N∧N<4611686018427387904) (r:∀ k,num_root.l0 (k+64) 0 N 0 4611686018427387904=some R) (hx:-1073741824≤x∧x≤1073741824) (hy:-1073741824≤y∧y≤1073741824) (e:x*x+y*y=N) (k:Nat):num_Hypot.f (k+70) x y=some R:=by
 have bx:=u_bits x x hx hx
 have bY:=u_bits y y hy hy
 have dx:(x*x) / 18446744073709551616=0∧(x*x) % 18446744073709551616=x*x:=by omega
 have dy:(y*y) / 18446744073709551616=0∧(y*y) % 18446744073709551616=y*y:=by omega
 unfold num_Hypot.f
 rw [size_some x hx,size_some y hy];simp only [Option.bind_some]
 rw [times_some (by omega) (by omega),times_some (by omega) (by omega)];simp only [Option.bind_some]
 rw [max_sq,max_sq,dx.1,dx.2,dy.1,dy.2,u_in (n:=x*x+y*y) (by omega) (by omega),if_neg (by omega),e,wz]
 unfold num_root.f
 rw [show k+70=(k+6)+64 by omega,r];rfl
theorem o63:Go.bits .or .u64 0 9223372036854775808=9223372036854775808:=by rw [or_nat (by omega) (by omega)];decide
theorem ref_first {N:Int} (k:Nat):r01_Hypot.j0 (k+2) N 0=r01_Hypot.l0 k N 0 0 4611686018427387904:=by
 rw [r01_Hypot.j0,r01_Hypot.l0,if_pos (by omega),o63,product_some (by omega) (by omega)]
 simp only [Option.bind_some]
 rw [if_neg (by omega),if_neg (by omega),show (9223372036854775808:Int) / 2=4611686018427387904 by omega]
theorem hypot_2 {x y N R:Int} (hN:0≤N∧N<4611686018427387904) (r:∀ k,r01_Hypot.l0 (k+64) N 0 0 4611686018427387904=some R) (hx:-1073741824≤x∧x≤1073741824) (hy:-1073741824≤y∧y≤1073741824) (e:x*x+y*y=N) (k:Nat):r01_Hypot.f (k+70) x y=some R:=by
 have bx:=u_bits x x hx hx
 have bY:=u_bits y y hy hy
 have dx:(x*x) / 18446744073709551616=0∧(x*x) % 18446744073709551616=x*x:=by omega
 have dy:(y*y) / 18446744073709551616=0∧(y*y) % 18446744073709551616=y*y:=by omega
 unfold r01_Hypot.f
 rw [rabs_some x (by omega) (by omega),rabs_some y (by omega) (by omega)];simp only [Option.bind_some]
 rw [product_some (by omega) (by omega),product_some (by omega) (by omega)];simp only [Option.bind_some]
 rw [max_sq,max_sq,dx.1,dx.2,dy.1,dy.2,u_in (n:=x*x+y*y) (by omega) (by omega),if_neg (by omega),e,wz]
 rw [show k+70=(k+4)+64+2 by omega,ref_first]
 exact r (k+4)
/-- both lengths: one number, told by the sum of the squares -/
theorem hypot_some (N:Int) (hN:0≤N∧N<4611686018427387904):∃ R,0≤R∧R<2147483648∧∀ (x y:Int),-1073741824≤x∧x≤1073741824→-1073741824≤y∧y≤1073741824→x*x+y*y=N→∀ k,num_Hypot.f (k+70) x y=some R∧r01_Hypot.f (k+70) x y=some R:=by
 obtain ⟨R,r1,r2,r3,r4⟩:=root_at hN 0
 rw [show 0+62+2=64 by omega] at r1 r2
 exact ⟨R,r3,sq_small r3 r4 hN.2,fun x y hx hy e k=>⟨hypot_1 hN (up1 64 r1) hx hy e k,hypot_2 hN (up2 64 r2) hx hy e k⟩⟩
end Go.Proofs.Ytmlcobnidfkhfaa.Q
namespace Go.Proofs.Ytmlcobnidfkhfaa.Q
open Go.RowKit Go.Proofs.YtmlcobnidfkhfaaW.PrintWords Go.Proofs.YtmlcobnidfkhfaaW.PrintLast Go.Proofs.YtmlcobnidfkhfaaW.PrintMore
set_option linter.unusedVariables false
set_option linter.unusedSimpArgs false

/-- the root of a number -/
def hy (N:Int):Int:=(num_root.l0 64 0 N 0 4611686018427387904).getD 0
theorem hy_some (N:Int) (hN:0≤N∧N<4611686018427387904):0≤hy N∧hy N<2147483648∧∀ (x y:Int),-1073741824≤x∧x≤1073741824→-1073741824≤y∧y≤1073741824→x*x+y*y=N→∀ k,num_Hypot.f (k+70) x y=some (hy N)∧r01_Hypot.f (k+70) x y=some (hy N):=by
 obtain ⟨R,r1,r2,r3,r4⟩:=root_at hN 0
 rw [show 0+62+2=64 by omega] at r1 r2
 have e:hy N=R:=by unfold hy;rw [r1];rfl
 rw [e]
 exact ⟨r3,sq_small r3 r4 hN.2,fun x y hx hy e k=>⟨hypot_1 hN (up1 64 r1) hx hy e k,hypot_2 hN (up2 64 r2) hx hy e k⟩⟩

/-- a quotient's bounds out of its numerator's -/
theorem dv_bd {a b M:Int} (hb:0<b) (hM:0≤M) (h:-M≤a∧a≤M):-M-1≤dv a b∧dv a b≤M+1:=by
 have n:=dv_near a b hb
 have up:∀ q:Int,M+2≤q→(M+2)*b≤q*b:=fun q hq=>Int.mul_le_mul_of_nonneg_right hq (by omega)
 have lo:∀ q:Int,q≤-M-2→q*b≤(-M-2)*b:=fun q hq=>Int.mul_le_mul_of_nonneg_right hq (by omega)
 have e1:(M+2)*b=M*b+2*b:=by grind
 have e2:(-M-2)*b = -(M*b)-2*b:=by grind
 have m:M*1≤M*b:=Int.mul_le_mul_of_nonneg_left (by omega) hM
 constructor
 ·refine Int.not_lt.mp fun c=>?_
  have:=lo (dv a b) (by omega);omega
 ·refine Int.not_lt.mp fun c=>?_
  have:=up (dv a b) (by omega);omega
theorem dv_unit {a b:Int} (hb:0<b) (h:0≤a∧a≤b*65536):0≤dv a b∧dv a b≤65536:=by
 unfold dv
 constructor
 ·exact Int.ediv_nonneg (by omega) (by omega)
 ·have:(2*a+b) / (2*b)<65537:=by rw [Int.ediv_lt_iff_lt_mul (by omega)];omega
  omega

/-- the angle of a slope -/
def eg (z:Int):Int:=dv (z*(536870912+2848*(65536-z))) 4294967296
theorem eg_arg {z:Int} (h:0≤z∧z≤65536):0≤z*(536870912+2848*(65536-z))∧z*(536870912+2848*(65536-z))≤65536*723517440:=by
 have m:z*(536870912+2848*(65536-z))≤65536*723517440:=Int.mul_le_mul (by omega) (by omega) (by omega) (by omega)
 exact ⟨Int.mul_nonneg (by omega) (by omega),m⟩
theorem eg_bd {z:Int} (h:0≤z∧z≤65536):0≤eg z∧eg z≤16384:=by
 have a:=eg_arg h
 unfold eg dv;omega
theorem eighth_some (k:Nat) {z:Int} (h:0≤z∧z≤65536):gr_eighth.f (k+1) z=some (eg z)∧r18_eighth.f (k+1) z=some (eg z):=by
 have a:=eg_arg h
 unfold gr_eighth.f r18_eighth.f
 rw [w_in (n:=65536-z) (by omega) (by omega),w_in (n:=2848*(65536-z)) (by omega) (by omega),w_in (n:=536870912+2848*(65536-z)) (by omega) (by omega),w_in (n:=z*(536870912+2848*(65536-z))) (by omega) (by omega),div_pos k _ _ (by omega) (by omega) (by omega),rdiv_pos k _ _ (by omega) (by omega) (by omega)]
 exact ⟨rfl,rfl⟩

/-- the angle within a quarter -/
def qa (p q:Int):Int:=if p=0∧q=0 then 0 else if p≥q then eg (dv (q*65536) p) else 16384-eg (dv (p*65536) q)
/-- the angle of a vector -/
def ang (dx dy:Int):Int :=
 if dx≥0 then (if dy≥0 then qa (max dx (-dx)) (max dy (-dy)) else Int.tmod (65536-qa (max dx (-dx)) (max dy (-dy))) 65536)
 else (if dy≥0 then 32768-qa (max dx (-dx)) (max dy (-dy)) else 32768+qa (max dx (-dx)) (max dy (-dy)))
def Sm (d:Int):Prop:=-17825800≤d∧d≤17825800
theorem qa_bd {p q:Int} (hp:0≤p) (hq:0≤q):0≤qa p q∧qa p q≤16384:=by
 unfold qa
 by_cases c:p=0∧q=0
 ·rw [if_pos c];omega
 rw [if_neg c]
 by_cases d:p≥q
 ·rw [if_pos d];exact eg_bd (dv_unit (by omega) (by omega))
 ·rw [if_neg d];have:=eg_bd (dv_unit (a:=p*65536) (b:=q) (by omega) (by omega));omega
theorem ang_bd (dx dy:Int):0≤ang dx dy∧ang dx dy≤65536:=by
 have:=qa_bd (p:=max dx (-dx)) (q:=max dy (-dy)) (by omega) (by omega)
 unfold ang
 generalize qa (max dx (-dx)) (max dy (-dy))=h at *
 split <;> split
 ·omega
 ·rw [Int.tmod_eq_emod_of_nonneg (by omega)];omega
 ·omega
 ·omega
theorem angle_end (k:Nat) (dx dy h:Int) (hh:0≤h∧h≤16384):gr_angle.j1 (k+3) dx dy h=some (if dx≥0 then (if dy≥0 then h else Int.tmod (65536-h) 65536) else (if dy≥0 then 32768-h else 32768+h))∧r18_Angle.j2 (k+3) dx dy h=some (if dx≥0 then (if dy≥0 then h else Int.tmod (65536-h) 65536) else (if dy≥0 then 32768-h else 32768+h)):=by
 simp only [gr_angle.j1,gr_angle.j2,gr_angle.j3,r18_Angle.j2,r18_Angle.j3]
 rw [w_in (n:=32768-h) (by omega) (by omega),w_in (n:=32768+h) (by omega) (by omega),w_in (n:=65536-h) (by omega) (by omega)]
 by_cases c:0≤dx <;> by_cases d:0≤dy
 ·simp [c,d,show ¬ dx<0 by omega,show ¬ dy<0 by omega]
 ·simp [c,d,show ¬ dx<0 by omega,show dy<0 by omega]
 ·simp [c,d,show dx<0 by omega,show ¬ dy<0 by omega]
 ·simp [c,d,show dx<0 by omega,show dy<0 by omega]
theorem angle_some (k:Nat) {dx dy:Int} (hx:Sm dx) (hy:Sm dy):gr_angle.f (k+10) dx dy=some (ang dx dy)∧r18_Angle.f (k+10) dx dy=some (ang dx dy):=by
 unfold Sm at hx hy
 have hb:=qa_bd (p:=max dx (-dx)) (q:=max dy (-dy)) (by omega) (by omega)
 have e:=fun k=>angle_end k dx dy (qa (max dx (-dx)) (max dy (-dy))) hb
 have hp:0≤max dx (-dx)∧max dx (-dx)≤17825800:=by omega
 have hq:0≤max dy (-dy)∧max dy (-dy)≤17825800:=by omega
 unfold gr_angle.f r18_Angle.f
 rw [abs_some dx (by omega),abs_some dy (by omega),rabs_some' dx (by omega),rabs_some' dy (by omega)]
 simp only [Option.bind_some]
 have fin:∀ r,qa (max dx (-dx)) (max dy (-dy))=r→(gr_angle.j0 (k+10) dx dy (max dx (-dx)) (max dy (-dy)) 0 (max dx (-dx)==0&&max dy (-dy)==0)=gr_angle.j1 (k+9) dx dy r)→(r18_Angle.j0 (k+10) dx dy (max dx (-dx)) (max dy (-dy)) 0 (decide (max dx (-dx)≥max dy (-dy))&&decide (max dx (-dx)>0))=r18_Angle.j2 (k+8) dx dy r) →
   gr_angle.j0 (k+10) dx dy (max dx (-dx)) (max dy (-dy)) 0 (max dx (-dx)==0&&max dy (-dy)==0)=some (ang dx dy)∧r18_Angle.j0 (k+10) dx dy (max dx (-dx)) (max dy (-dy)) 0 (decide (max dx (-dx)≥max dy (-dy))&&decide (max dx (-dx)>0))=some (ang dx dy):=by
  intro r hr h1 h2
  rw [h1,h2,← hr]
  exact ⟨(e (k+6)).1,(e (k+5)).2⟩
 have goal:gr_angle.j0 (k+10) dx dy (max dx (-dx)) (max dy (-dy)) 0 (max dx (-dx)==0&&max dy (-dy)==0)=some (ang dx dy)∧r18_Angle.j0 (k+10) dx dy (max dx (-dx)) (max dy (-dy)) 0 (decide (max dx (-dx)≥max dy (-dy))&&decide (max dx (-dx)>0))=some (ang dx dy):=by
  generalize max dx (-dx)=p at *
  generalize max dy (-dy)=q at *
  refine fin _ rfl ?_ ?_
  ·rw [gr_angle.j0]
   unfold qa
   by_cases c:p=0∧q=0
   ·rw [if_pos c,if_pos (by simp [c.1,c.2])]
   rw [if_neg c,if_neg (by simpa using c)]
   by_cases d:p≥q
   ·rw [if_pos d,if_pos d,w_in (n:=q*65536) (by omega) (by omega),div_pos (k+8) _ _ (by omega) (by omega) (by omega)]
    simp only [Option.bind_some]
    rw [(eighth_some (k+8) (dv_unit (a:=q*65536) (b:=p) (by omega) (by omega))).1];rfl
   ·rw [if_neg d,if_neg d,w_in (n:=p*65536) (by omega) (by omega),div_pos (k+8) _ _ (by omega) (by omega) (by omega)]
    simp only [Option.bind_some]
    have u:=dv_unit (a:=p*65536) (b:=q) (by omega) (by omega)
    have v:=eg_bd u
    rw [(eighth_some (k+8) u).1]
    simp only [Option.bind_some]
    rw [w_in (n:=16384-_) (by omega) (by omega)]
  ·rw [r18_Angle.j0]
   unfold qa
   by_cases c:p=0∧q=0
   ·rw [if_pos c,if_neg (by simp [c.1]),r18_Angle.j1,if_neg (by omega)]
   rw [if_neg c]
   by_cases d:p≥q
   ·rw [if_pos d,if_pos (by simp only [d,show p>0 by omega,decide_true];rfl),w_in (n:=q*65536) (by omega) (by omega),rdiv_pos (k+8) _ _ (by omega) (by omega) (by omega)]
    simp only [Option.bind_some]
    rw [(eighth_some (k+8) (dv_unit (a:=q*65536) (b:=p) (by omega) (by omega))).2]
    simp only [Option.bind_some]
    rw [r18_Angle.j1,if_neg (by omega)]
   ·rw [if_neg d,if_neg (by simp [d]),r18_Angle.j1,if_pos (by omega),w_in (n:=p*65536) (by omega) (by omega),rdiv_pos (k+7) _ _ (by omega) (by omega) (by omega)]
    simp only [Option.bind_some]
    have u:=dv_unit (a:=p*65536) (b:=q) (by omega) (by omega)
    have v:=eg_bd u
    rw [(eighth_some (k+7) u).2]
    simp only [Option.bind_some]
    rw [w_in (n:=16384-_) (by omega) (by omega)]
 have s1:(if max dx (-dx)=0 then gr_angle.j0 (k+10) dx dy (max dx (-dx)) (max dy (-dy)) 0 (max dy (-dy)==0) else gr_angle.j0 (k+10) dx dy (max dx (-dx)) (max dy (-dy)) 0 false)=gr_angle.j0 (k+10) dx dy (max dx (-dx)) (max dy (-dy)) 0 (max dx (-dx)==0&&max dy (-dy)==0):=by
  by_cases c:max dx (-dx)=0
  ·rw [if_pos c,c];rfl
  ·rw [if_neg c,show (max dx (-dx)==0)=false from beq_eq_false_iff_ne.mpr c];rfl
 have s2:(if max dx (-dx)≥max dy (-dy) then r18_Angle.j0 (k+10) dx dy (max dx (-dx)) (max dy (-dy)) 0 (decide (max dx (-dx)>0)) else r18_Angle.j0 (k+10) dx dy (max dx (-dx)) (max dy (-dy)) 0 false)=r18_Angle.j0 (k+10) dx dy (max dx (-dx)) (max dy (-dy)) 0 (decide (max dx (-dx)≥max dy (-dy))&&decide (max dx (-dx)>0)):=by
  by_cases c:max dx (-dx)≥max dy (-dy)
  ·rw [if_pos c,decide_eq_true c];rfl
  ·rw [if_neg c,decide_eq_false c];rfl
 rw [s1,s2];exact goal
end Go.Proofs.Ytmlcobnidfkhfaa.Q
namespace Go.Proofs.Ytmlcobnidfkhfaa.Q
open Go.RowKit Go.Proofs.YtmlcobnidfkhfaaW.PrintWords Go.Proofs.YtmlcobnidfkhfaaW.PrintLast Go.Proofs.YtmlcobnidfkhfaaW.PrintMore
set_option linter.unusedVariables false
set_option linter.unusedSimpArgs false

/-- the position before the spread: of a kind, the third parameter, the vector from the first point, the vector between the points -/
def al (kind l2 dx dy vx vy:Int):Int :=
 if kind=1 then (if vx*vx+vy*vy=0 then 0 else dv (65535*(dx*vx+dy*vy)) (vx*vx+vy*vy))
 else if kind=3 then (ang dx dy-l2) % 65536
 else if l2=0 then 65535
 else if kind=4 then dv (65535*(max dx (-dx)+max dy (-dy))) l2
 else dv (65535*hy (256*(dx*dx+dy*dy))) (16*l2)
theorem sq_nn (x:Int):0≤x*x:=by
 rcases Int.le_total 0 x with c|c
 ·exact Int.mul_nonneg c c
 ·exact Int.mul_nonneg_of_nonpos_of_nonpos c c
theorem rd_rg {l:List Int} (v:Rg l 0) {i:Int} (h0:0≤i) (h:i<l.length):-1048576≤rd l i∧rd l i≤1048576:=v i h0 h
theorem along_some (k:Nat) (kind:Int) (l:List Int) (dx dy:Int) (hk:1≤kind∧kind≤4) (hL:Lok kind l) (hV:Vok kind l) (hx:Sm dx) (hdy:Sm dy) :
  gr_along.f (k+80) kind l dx dy=some (al kind (rd l 2) dx dy (rd l 2-rd l 0) (rd l 3-rd l 1))∧(∀ x y,wrap64 (wrap64 (wrap64 (16*x)+8)-rd l 0)=dx→wrap64 (wrap64 (wrap64 (16*y)+8)-rd l 1)=dy→r18_plain.f (k+80) kind l x y=some (al kind (rd l 2) dx dy (rd l 2-rd l 0) (rd l 3-rd l 1)))∧-9000000000000000000≤al kind (rd l 2) dx dy (rd l 2-rd l 0) (rd l 3-rd l 1)∧al kind (rd l 2) dx dy (rd l 2-rd l 0) (rd l 3-rd l 1)≤9000000000000000000:=by
 have hl:3≤(l.length:Int):=by
  by_cases h:kind=1
  ·have:=hL.1 h;omega
  ·have:=hL.2 h;omega
 have r0:=rd_rg hV.1 (i:=0) (by omega) (by omega)
 have r1:=rd_rg hV.1 (i:=1) (by omega) (by omega)
 have r2:=rd_rg hV.1 (i:=2) (by omega) (by omega)
 have hn:=hV.2
 unfold Sm at hx hdy
 unfold gr_along.f al
 by_cases k1:kind=1
 ·have l4:=hL.1 k1
  have r3:=rd_rg hV.1 (i:=3) (by omega) (by omega)
  simp only [if_pos k1]
  rw [if_pos (by omega),if_pos (by omega),if_pos (by omega),if_pos (by omega)]
  generalize hvx:rd l 2-rd l 0=vx at *
  generalize hvy:rd l 3-rd l 1=vy at *
  have p1:=mul_bd (A:=17825800) (B:=2097152) (a:=dx) (b:=vx) (by omega) (by omega)
  have p2:=mul_bd (A:=17825800) (B:=2097152) (a:=dy) (b:=vy) (by omega) (by omega)
  have p3:=mul_bd (A:=2097152) (B:=2097152) (a:=vx) (b:=vx) (by omega) (by omega)
  have p4:=mul_bd (A:=2097152) (B:=2097152) (a:=vy) (b:=vy) (by omega) (by omega)
  have q3:=sq_nn vx;have q4:=sq_nn vy
  have num:wrap64 (65535*wrap64 (wrap64 (dx*wrap64 vx)+wrap64 (dy*wrap64 vy)))=65535*(dx*vx+dy*vy):=by
   rw [w_in (n:=vx) (by omega) (by omega),w_in (n:=vy) (by omega) (by omega),w_in (n:=dx*vx) (by omega) (by omega),w_in (n:=dy*vy) (by omega) (by omega),w_in (n:=dx*vx+dy*vy) (by omega) (by omega),w_in (by omega) (by omega)]
  have den:wrap64 (wrap64 (wrap64 vx*wrap64 vx)+wrap64 (wrap64 vy*wrap64 vy))=vx*vx+vy*vy:=by
   rw [w_in (n:=vx) (by omega) (by omega),w_in (n:=vy) (by omega) (by omega),w_in (n:=vx*vx) (by omega) (by omega),w_in (n:=vy*vy) (by omega) (by omega),w_in (by omega) (by omega)]
  rw [num,den]
  generalize dx*vx=P1 at *
  generalize dy*vy=P2 at *
  have res:(num_Div.f (k+80) (65535*(P1+P2)) (vx*vx+vy*vy)).bind (fun t157=>some t157)=some (if vx*vx+vy*vy=0 then 0 else dv (65535*(P1+P2)) (vx*vx+vy*vy))∧(r01_Div.f (k+80) (65535*(P1+P2)) (vx*vx+vy*vy)).bind (fun t157=>some t157)=some (if vx*vx+vy*vy=0 then 0 else dv (65535*(P1+P2)) (vx*vx+vy*vy))∧-9000000000000000000≤(if vx*vx+vy*vy=0 then 0 else dv (65535*(P1+P2)) (vx*vx+vy*vy))∧(if vx*vx+vy*vy=0 then 0 else dv (65535*(P1+P2)) (vx*vx+vy*vy))≤9000000000000000000:=by
   generalize vx*vx=P3 at *
   generalize vy*vy=P4 at *
   by_cases z:P3+P4=0
   ·simp only [if_pos z];rw [z,div_zero,rdiv_zero];exact ⟨rfl,rfl,by omega,by omega⟩
   ·simp only [if_neg z]
    rw [div_pos _ _ _ (by omega) (by omega) (by omega),rdiv_pos _ _ _ (by omega) (by omega) (by omega)]
    have b:=dv_bd (a:=65535*(P1+P2)) (b:=P3+P4) (M:=8999999999999999990) (by omega) (by omega) (by omega)
    exact ⟨rfl,rfl,by omega,by omega⟩
  refine ⟨res.1,fun x y ex ey=>?_,res.2.2⟩
  unfold r18_plain.f
  rw [if_pos (by omega),if_pos (by omega),if_pos k1,if_pos (by omega),if_pos (by omega),ex,ey,hvx,hvy,num,den]
  exact res.2.1
 simp only [if_neg k1]
 by_cases k3:kind=3
 ·simp only [if_pos k3]
  have ab:=ang_bd dx dy
  rw [(angle_some (k+70) hx hdy).1];simp only [Option.bind_some]
  rw [if_pos (by omega),w_in (n:=ang dx dy-rd l 2) (by omega) (by omega),modulo_some _ _ (by omega) (by omega)]
  refine ⟨rfl,fun x y ex ey=>?_,by omega,by omega⟩
  unfold r18_plain.f
  rw [if_pos (by omega),if_pos (by omega),if_neg k1,if_neg (by omega),if_pos k3,ex,ey,(angle_some (k+70) hx hdy).2]
  simp only [Option.bind_some]
  rw [if_pos (by omega),w_in (n:=ang dx dy-rd l 2) (by omega) (by omega),mod_some (k+79) _ _ (by omega) (by omega)];rfl
 simp only [if_neg k3]
 rw [if_pos (by omega)]
 have hp:¬ rd l 2<0:=fun h=>hn ⟨by omega,h⟩
 by_cases z:rd l 2=0
 ·simp only [if_pos z]
  refine ⟨trivial,fun x y ex ey=>?_,by omega,by omega⟩
  unfold r18_plain.f
  rw [if_pos (by omega),if_pos (by omega),if_neg k1]
  by_cases k2:kind=2
  ·rw [if_pos k2,if_pos (by omega),if_pos z]
  ·rw [if_neg k2,if_neg k3,if_pos (by omega),if_pos z]
 simp only [if_neg z]
 by_cases k4:kind=4
 ·simp only [if_pos k4]
  rw [abs_some dx (by omega),abs_some dy (by omega)];simp only [Option.bind_some]
  rw [w_in (n:=max dx (-dx)+max dy (-dy)) (by omega) (by omega),w_in (by omega) (by omega),div_pos _ _ _ (by omega) (by omega) (by omega)]
  have b:=dv_bd (a:=65535*(max dx (-dx)+max dy (-dy))) (b:=rd l 2) (M:=8999999999999999990) (by omega) (by omega) (by omega)
  refine ⟨rfl,fun x y ex ey=>?_,by omega,by omega⟩
  unfold r18_plain.f
  rw [if_pos (by omega),if_pos (by omega),if_neg k1,if_neg (by omega),if_neg k3,if_pos (by omega),if_neg z,ex,ey,rabs_some' dx (by omega),rabs_some' dy (by omega)];simp only [Option.bind_some]
  rw [w_in (n:=max dx (-dx)+max dy (-dy)) (by omega) (by omega),w_in (by omega) (by omega),rdiv_pos _ _ _ (by omega) (by omega) (by omega)];rfl
 ·simp only [if_neg k4]
  have p3:=mul_bd (A:=17825800) (B:=17825800) (a:=dx) (b:=dx) (by omega) (by omega)
  have p4:=mul_bd (A:=17825800) (B:=17825800) (a:=dy) (b:=dy) (by omega) (by omega)
  have q3:=sq_nn dx;have q4:=sq_nn dy
  obtain ⟨h0,h1,h2⟩:=hy_some (256*(dx*dx+dy*dy)) (by omega)
  have e:=h2 (16*dx) (16*dy) (by omega) (by omega) (by grind) (k+10)
  have e80:k+80=k+10+70:=by omega
  rw [w_in (n:=16*dx) (by omega) (by omega),w_in (n:=16*dy) (by omega) (by omega),e80,e.1];simp only [Option.bind_some]
  generalize hy (256*(dx*dx+dy*dy))=R at *
  rw [w_in (n:=65535*R) (by omega) (by omega),w_in (n:=16*rd l 2) (by omega) (by omega),div_pos _ _ _ (by omega) (by omega) (by omega)]
  have b:=dv_bd (a:=65535*R) (b:=16*rd l 2) (M:=8999999999999999990) (by omega) (by omega) (by omega)
  refine ⟨rfl,fun x y ex ey=>?_,by omega,by omega⟩
  unfold r18_plain.f
  rw [if_pos (by omega),if_pos (by omega),if_neg k1,if_pos (by omega),if_pos (by omega),if_neg z,ex,ey,w_in (n:=16*dx) (by omega) (by omega),w_in (n:=16*dy) (by omega) (by omega),e.2];simp only [Option.bind_some]
  rw [w_in (n:=65535*R) (by omega) (by omega),w_in (n:=16*rd l 2) (by omega) (by omega),rdiv_pos _ _ _ (by omega) (by omega) (by omega)];rfl

/-- the spread -/
def sp (spread t:Int):Int:=if spread=1 then t % 65536 else if spread=2 then (if t % 131072>65535 then 131071-t % 131072 else t % 131072) else min 65535 (max t 0)
theorem sp_bd (spread t:Int):0≤sp spread t∧sp spread t≤65535:=by
 unfold sp;split
 ·omega
 ·split
  ·split <;> omega
  ·omega
def cl (x:Int):Int:=min 1048576 (max x (-1048576))
/-- the position of a pixel -/
def pl (kind:Int) (l:List Int) (spread x y:Int):Int:=sp spread (al kind (rd l 2) (16*cl x+8-rd l 0) (16*cl y+8-rd l 1) (rd l 2-rd l 0) (rd l 3-rd l 1))
theorem place_some (k:Nat) (kind:Int) (l:List Int) (spread x y:Int) (hK:Kok kind spread) (hL:Lok kind l) (hV:Vok kind l) :
  gr_place.f (k+80) kind l spread x y=some (pl kind l spread x y)∧r18_Place.j0 (k+81) kind l spread x y false=some (pl kind l spread x y):=by
 have hl:3≤(l.length:Int):=by
  by_cases h:kind=1
  ·have:=hL.1 h;omega
  ·have:=hL.2 h;omega
 have r0:=rd_rg hV.1 (i:=0) (by omega) (by omega)
 have r1:=rd_rg hV.1 (i:=1) (by omega) (by omega)
 have cx:-1048576≤cl x∧cl x≤1048576:=by unfold cl;omega
 have cy:-1048576≤cl y∧cl y≤1048576:=by unfold cl;omega
 unfold Kok at hK
 obtain ⟨a1,a2,a3,a4⟩:=along_some k kind l (16*cl x+8-rd l 0) (16*cl y+8-rd l 1) (by omega) hL hV (show -17825800≤_∧_ from by omega) (show -17825800≤_∧_ from by omega)
 have ex:wrap64 (wrap64 (wrap64 (16*cl x)+8)-rd l 0)=16*cl x+8-rd l 0:=by
  rw [w_in (n:=16*cl x) (by omega) (by omega),w_in (n:=16*cl x+8) (by omega) (by omega),w_in (by omega) (by omega)]
 have ey:wrap64 (wrap64 (wrap64 (16*cl y)+8)-rd l 1)=16*cl y+8-rd l 1:=by
  rw [w_in (n:=16*cl y) (by omega) (by omega),w_in (n:=16*cl y+8) (by omega) (by omega),w_in (by omega) (by omega)]
 unfold gr_place.f pl
 rw [r18_Place.j0,if_neg (by decide),clamp_some,clamp_some,rclamp_some,rclamp_some];simp only [Option.bind_some]
 rw [if_pos (by omega),if_pos (by omega),show min 1048576 (max x (-1048576))=cl x from rfl,show min 1048576 (max y (-1048576))=cl y from rfl,ex,ey,a1,a2 (cl x) (cl y) ex ey];simp only [Option.bind_some]
 generalize al kind (rd l 2) (16*cl x+8-rd l 0) (16*cl y+8-rd l 1) (rd l 2-rd l 0) (rd l 3-rd l 1)=t at *
 rw [modulo_some t 65536 (by omega) (by omega),modulo_some t 131072 (by omega) (by omega),mod_some (k+79) t 65536 (by omega) (by omega),mod_some (k+79) t 131072 (by omega) (by omega),clamp_some]
 unfold r06_U.f
 rw [rclamp_some];simp only [Option.bind_some]
 rw [w_in (n:=131071-t % 131072) (by omega) (by omega)]
 unfold sp
 by_cases s0:spread=0
 ·rw [if_neg (by omega),if_neg (by omega),if_pos s0,if_neg (by omega),if_neg (by omega)];exact ⟨rfl,rfl⟩
 by_cases s1:spread=1
 ·simp only [if_pos s1,if_neg s0];exact ⟨trivial,trivial⟩
 ·have s2:spread=2:=by omega
  simp only [if_neg s1,if_pos s2,if_neg s0]
  by_cases c:t % 131072>65535
  ·simp only [if_pos c];exact ⟨trivial,trivial⟩
  ·simp only [if_neg c];exact ⟨trivial,trivial⟩
/-- Place, the program's and the reference's -/
theorem Place_some (k:Nat) (kind:Int) (l:List Int) (spread x y:Int) :
  (Kok kind spread∧Lok kind l∧Vok kind l∧gr_Place.f (k+90) kind l spread x y=some (pl kind l spread x y)∧r18_Place.f (k+90) kind l spread x y=some (pl kind l spread x y)) ∨ (¬ (Kok kind spread∧Lok kind l∧Vok kind l)∧gr_Place.f (k+90) kind l spread x y=some 0∧r18_Place.f (k+90) kind l spread x y=some 0):=by
 obtain ⟨ek,en,ev,h,h1,h2⟩:=params_some (k+82) kind l spread
 have g0:r18_Place.j0 (k+90) kind l spread x y true=some 0:=by simp only [r18_Place.j0];rfl
 have p0:=fun hK hL hV=>place_some (k+10) kind l spread x y hK hL hV
 have p1:=fun hK hL hV=>place_some (k+9) kind l spread x y hK hL hV
 unfold gr_Place.f r18_Place.f
 rw [show k+90=k+82+8 by omega,h];simp only [Option.bind_some]
 rcases head_some (k+89) kind l spread with ⟨hK,hL,e⟩|⟨hK,hL,e⟩|⟨hK,e⟩
 ·rw [show k+82+8=k+89+1 by omega,e];simp only [Option.bind_some]
  have a1:ek=0:=by rcases h1 with ⟨_,a⟩|⟨a,_⟩;exact a;exact absurd hK a
  have a2:en=0:=by rcases h2 with ⟨a,_⟩|⟨_,a,_⟩;exact absurd hL a;exact a
  rcases numbers_some (k+85) kind l hL with ⟨hV,f⟩|⟨hV,f⟩
  ·have a3:ev=0:=by rcases h2 with ⟨a,_⟩|⟨_,_,⟨_,a⟩|⟨a,_⟩⟩;exact absurd hL a;exact a;exact absurd hV a
   left
   refine ⟨hK,hL,hV,?_,?_⟩
   ·rw [if_pos a1,if_pos a2,if_pos a3,show k+89+1=k+10+80 by omega,(p0 hK hL hV).1];rfl
   ·rw [if_pos trivial,show k+89+1=k+85+5 by omega,f];simp only [Option.bind_some]
    rw [show k+85+5=k+9+81 by omega];exact (p1 hK hL hV).2
  ·have a3:ev=2:=by rcases h2 with ⟨a,_⟩|⟨_,_,⟨a,_⟩|⟨_,a⟩⟩;exact absurd hL a;exact absurd a hV;exact a
   right
   refine ⟨fun g=>hV g.2.2,?_,?_⟩
   ·rw [if_pos a1,if_pos a2,if_neg (by omega)]
   ·rw [if_pos trivial,show k+89+1=k+85+5 by omega,f];simp only [Option.bind_some]
    rw [show k+85+5=k+90 by omega];exact g0
 ·right
  have a2:en=1:=by rcases h2 with ⟨_,a,_⟩|⟨a,_⟩;exact a;exact absurd a hL
  have a1:ek=0:=by rcases h1 with ⟨_,a⟩|⟨a,_⟩;exact a;exact absurd hK a
  rw [show k+82+8=k+89+1 by omega,e];simp only [Option.bind_some]
  refine ⟨fun g=>hL g.2.1,?_,?_⟩
  ·rw [if_pos a1,if_neg (by omega)]
  ·rw [if_neg (by decide)];exact g0
 ·right
  have a1:ek=8:=by rcases h1 with ⟨a,_⟩|⟨_,a⟩;exact absurd a hK;exact a
  rw [show k+82+8=k+89+1 by omega,e];simp only [Option.bind_some]
  refine ⟨fun g=>hK g.1,?_,?_⟩
  ·rw [if_neg (by omega)]
  ·rw [if_neg (by decide)];exact g0
end Go.Proofs.Ytmlcobnidfkhfaa.Q
namespace Go.Proofs.Ytmlcobnidfkhfaa.Q
open Go.RowKit Go.Proofs.YtmlcobnidfkhfaaW.PrintWords Go.Proofs.YtmlcobnidfkhfaaW.PrintLast Go.Proofs.YtmlcobnidfkhfaaW.PrintMore
set_option linter.unusedVariables false
set_option linter.unusedSimpArgs false

/-- more rounds tell the same -/
theorem lift {α:Type} {f:Nat→Option α} (m:∀ k,LeO (f k) (f (k+1))) {K:Nat} {v:α} (h:f K=some v) (k:Nat):f (k+K)=some v:=by
 induction k with
 | zero=>rw [Nat.zero_add];exact h
 | succ k ih=>rw [show k+1+K=k+K+1 by omega];exact m _ _ ih
def Un (n:Int):Prop:=0≤n∧n≤65535
instance (n:Int):Decidable (Un n):=by unfold Un;infer_instance
/-- a valid pixel -/
def Pv (p:S38):Prop:=Un p.f0∧Un p.f1∧Un p.f2∧Un p.f3
instance (p:S38):Decidable (Pv p):=by unfold Pv;infer_instance
theorem unit_some (n:Int):pixel_unit.f n=some (min 65535 (max n 0)):=by unfold pixel_unit.f;rw [clamp_some];rfl
theorem U_some (n:Int):r06_U.f n=some (min 65535 (max n 0)):=by unfold r06_U.f;rw [rclamp_some];rfl
theorem un_id {n:Int} (h:Un n):min 65535 (max n 0)=n:=by unfold Un at h;omega
theorem limit_some (a b c d:Int):pixel_Limit.f a b c d=some (min 65535 (max a 0),min 65535 (max b 0),min 65535 (max c 0),min 65535 (max d 0)):=by
 unfold pixel_Limit.f;rw [unit_some,unit_some,unit_some,unit_some];rfl
theorem Limit_some (a b c d:Int):r06_Limit.f a b c d=some (min 65535 (max a 0),min 65535 (max b 0),min 65535 (max c 0),min 65535 (max d 0)):=by
 unfold r06_Limit.f;rw [U_some,U_some,U_some,U_some];rfl
theorem lim_eq (n:Int):(n==min 65535 (max n 0))=decide (Un n):=by
 by_cases h:Un n
 ·rw [un_id h,decide_eq_true h];exact beq_self_eq_true n
 ·rw [decide_eq_false h];refine beq_eq_false_iff_ne.mpr fun e=>h ?_;unfold Un;omega
theorem lim_eq' (n:Int):(min 65535 (max n 0)==n)=decide (Un n):=by
 by_cases h:Un n
 ·rw [un_id h,decide_eq_true h];exact beq_self_eq_true n
 ·rw [decide_eq_false h];refine beq_eq_false_iff_ne.mpr fun e=>h ?_;unfold Un;omega
theorem pv_dec (p:S38):(decide (Un p.f0)&&(decide (Un p.f1)&&(decide (Un p.f2)&&decide (Un p.f3))))=decide (Pv p):=by
 unfold Pv
 by_cases h0:Un p.f0 <;> by_cases h1:Un p.f1 <;> by_cases h2:Un p.f2 <;> by_cases h3:Un p.f3 <;> simp [h0,h1,h2,h3]
theorem valid_some (p:S38):pixel_Valid.f p.f0 p.f1 p.f2 p.f3=some (decide (Pv p)):=by
 unfold pixel_Valid.f;rw [limit_some];simp only [Option.bind_some]
 rw [lim_eq,lim_eq,lim_eq,lim_eq,pv_dec]
theorem Valid_some (p:S38):r06_Valid.f p.f0 p.f1 p.f2 p.f3=some (decide (Pv p)):=by
 unfold r06_Valid.f;rw [Limit_some];simp only [Option.bind_some]
 rw [lim_eq',lim_eq',lim_eq',lim_eq',pv_dec]

/-- the stops from place i on are in order -/
def Stk (l:List S47) (i:Int):Prop:=∀ j:Int,i≤j→j<l.length→Un (rd_T47 l j).f0∧Pv (rd_T47 l j).f1∧(0<j→(rd_T47 l (j-1)).f0<(rd_T47 l j).f0)
theorem stk_cons {l:List S47} {i:Int} (h:Un (rd_T47 l i).f0∧Pv (rd_T47 l i).f1∧(0<i→(rd_T47 l (i-1)).f0<(rd_T47 l i).f0)) (g:Stk l (i+1)):Stk l i:=fun j a b=>by
 by_cases e:j=i
 ·subst e;exact h
 ·exact g j (by omega) b
theorem stk_tail {l:List S47} {i:Int} (g:Stk l i):Stk l (i+1):=fun j a b=>g j (by omega) b
theorem list_l (l:List S47) (hl:l.length≤100) (d:Nat):∀ (k:Nat) (i:Int),0≤i→i+d=l.length →
  ∃ e,gr_list.l0 (k+2*d+1) l l (l.length:Int) i=some e∧r18_Stops.l0 (k+2*d+1) l (l.length:Int) i=some e∧(e=0∧Stk l i ∨ e ≠ 0∧¬ Stk l i):=by
 induction d with
 | zero =>
  intro k i h0 h1
  obtain rfl:i=l.length:=by omega
  simp only [gr_list.l0,r18_Stops.l0]
  rw [if_neg (by omega),if_neg (by omega)]
  exact ⟨0,rfl,rfl,.inl ⟨rfl,fun j a b=>by omega⟩⟩
 | succ d ih =>
  intro k i h0 h1
  rw [show k+2*(d+1)+1=k+2*d+1+1+1 by omega,gr_list.l0,r18_Stops.l0]
  have p1:i<(l.length:Int):=by omega
  simp only [if_pos p1,if_pos h0,valid_some,Valid_some,Option.bind_some]
  simp only [gr_list.j1,r18_Stops.j1,if_pos trivial]
  rw [w_in (n:=i+1) (by omega) (by omega),w_in (n:=i-1) (by omega) (by omega)]
  by_cases c1:(rd_T47 l i).f0<0
  ·simp only [if_pos c1];exact ⟨2,rfl,rfl,.inr ⟨by omega,fun g=>by have:=(g i (Int.le_refl _) (by omega)).1;unfold Un at this;omega⟩⟩
  simp only [if_neg c1]
  by_cases c2:(rd_T47 l i).f0>65535
  ·simp only [if_pos c2];exact ⟨2,rfl,rfl,.inr ⟨by omega,fun g=>by have:=(g i (Int.le_refl _) (by omega)).1;unfold Un at this;omega⟩⟩
  simp only [if_neg c2]
  have un:Un (rd_T47 l i).f0:=⟨by omega,by omega⟩
  by_cases c3:Pv (rd_T47 l i).f1
  ·have nb:¬ ((!true)=true):=by decide
   simp only [decide_eq_true c3,if_neg nb]
   by_cases c4:i>0
   ·have q1:0≤i-1:=by omega
    have q2:i-1<(l.length:Int):=by omega
    simp only [if_pos c4,if_pos p1,if_pos h0,if_pos q1,if_pos q2]
    by_cases c5:(rd_T47 l i).f0≤(rd_T47 l (i-1)).f0
    ·simp only [if_pos c5];exact ⟨24,rfl,rfl,.inr ⟨by omega,fun g=>by have:=(g i (Int.le_refl _) (by omega)).2.2 c4;omega⟩⟩
    ·simp only [if_neg c5]
     obtain ⟨e,e1,e2,e3⟩:=ih k (i+1) (by omega) (by omega)
     refine ⟨e,e1,e2,?_⟩
     rcases e3 with ⟨z,g⟩|⟨z,g⟩
     ·exact .inl ⟨z,stk_cons ⟨un,c3,fun _=>by omega⟩ g⟩
     ·exact .inr ⟨z,fun h=>g (stk_tail h)⟩
   ·simp only [if_neg c4]
    obtain ⟨e,e1,e2,e3⟩:=ih k (i+1) (by omega) (by omega)
    refine ⟨e,e1,e2,?_⟩
    rcases e3 with ⟨z,g⟩|⟨z,g⟩
    ·exact .inl ⟨z,stk_cons ⟨un,c3,fun h=>absurd h c4⟩ g⟩
    ·exact .inr ⟨z,fun h=>g (stk_tail h)⟩
  ·have nb:(!false)=true:=by decide
   simp only [decide_eq_false c3,if_pos nb];exact ⟨2,rfl,rfl,.inr ⟨by omega,fun g=>c3 (g i (Int.le_refl _) (by omega)).2.1⟩⟩
/-- the program's list of stops -/
theorem list_some (l:List S47) (hl:l.length≤16):∃ e,(∀ k,gr_list.f (k+40) l=some e)∧(∀ k,r18_Stops.l0 (k+40) l (l.length:Int) 0=some e)∧(e=0∧Stk l 0 ∨ e ≠ 0∧¬ Stk l 0):=by
 obtain ⟨e,e1,e2,e3⟩:=list_l l (by omega) l.length (39-2*l.length) 0 (by omega) (by omega)
 rw [show 39-2*l.length+2*l.length+1=40 by omega] at e1 e2
 refine ⟨e,fun k=>?_,fun k=>?_,e3⟩
 ·exact lift (f:=fun k=>gr_list.f k l) (fun k=>gr_list.mono _ _) e1 k
 ·exact lift (f:=fun k=>r18_Stops.l0 k l (l.length:Int) 0) (fun k=>(r18_Stops.mono_l k).1 _ _ _) e2 k
def Sok (l:List S47):Prop:=0<l.length∧l.length≤16∧Stk l 0
/-- the reference's check of stops alone -/
theorem Stops_some (l:List S47):∃ e,(∀ k,r18_Stops.f (k+40) l=some e)∧(e=0∧Sok l ∨ e ≠ 0∧¬ Sok l):=by
 by_cases c1:(l.length:Int)=0
 ·refine ⟨1,fun k=>?_,.inr ⟨by omega,fun h=>by have:=h.1;omega⟩⟩
  unfold r18_Stops.f;rw [if_pos c1]
 by_cases c2:(l.length:Int)>16
 ·refine ⟨3,fun k=>?_,.inr ⟨by omega,fun h=>by have:=h.2.1;omega⟩⟩
  unfold r18_Stops.f;rw [if_neg c1,if_pos c2]
 obtain ⟨e,_,e2,e3⟩:=list_some l (by omega)
 refine ⟨e,fun k=>?_,?_⟩
 ·unfold r18_Stops.f;rw [if_neg c1,if_neg c2,e2]
 ·rcases e3 with ⟨z,g⟩|⟨z,g⟩
  ·exact .inl ⟨z,by omega,by omega,g⟩
  ·exact .inr ⟨z,fun h=>g h.2.2⟩
/-- Check, the program's and the reference's -/
theorem Check_some (kind:Int) (l:List Int) (spread:Int) (s:List S47):∃ e,(∀ k,gr_Check.f (k+50) kind l spread s=some e)∧(∀ k,r18_Check.f (k+50) kind l spread s=some e)∧(e=0→Kok kind spread∧Lok kind l∧Vok kind l∧Sok s):=by
 suffices h:∃ e,gr_Check.f 50 kind l spread s=some e∧r18_Check.f 50 kind l spread s=some e∧(e=0→Kok kind spread∧Lok kind l∧Vok kind l∧Sok s) by
  obtain ⟨e,h1,h2,h3⟩:=h
  exact ⟨e,fun k=>lift (f:=fun k=>gr_Check.f k kind l spread s) (fun k=>gr_Check.mono _ _ _ _ _) h1 k,fun k=>lift (f:=fun k=>r18_Check.f k kind l spread s) (fun k=>r18_Check.mono _ _ _ _ _) h2 k,h3⟩
 obtain ⟨ek,en,ev,h,h1,h2⟩:=params_some 42 kind l spread
 unfold gr_Check.f r18_Check.f
 rw [show (50:Nat)=42+8 from rfl,h];simp only [Option.bind_some]
 rcases head_some 49 kind l spread with ⟨hK,hL,e⟩|⟨hK,hL,e⟩|⟨hK,e⟩
 ·rw [show 42+8=49+1 from rfl,e];simp only [Option.bind_some]
  have a1:ek=0:=by rcases h1 with ⟨_,a⟩|⟨a,_⟩;exact a;exact absurd hK a
  have a2:en=0:=by rcases h2 with ⟨a,_⟩|⟨_,a,_⟩;exact absurd hL a;exact a
  rw [if_pos a1,if_pos a2,if_pos trivial,gr_Check.j0]
  by_cases c1:(s.length:Int)=0
  ·rw [if_pos (beq_iff_eq.mpr c1),if_pos c1];exact ⟨1,rfl,rfl,fun h=>by omega⟩
  rw [if_neg (by simpa using c1),if_neg c1]
  by_cases c2:(s.length:Int)>16
  ·rw [if_pos c2,if_pos c2];exact ⟨3,rfl,rfl,fun h=>by omega⟩
  rw [if_neg c2,if_neg c2,show (49:Nat)+1=45+5 from rfl]
  rcases numbers_some 45 kind l hL with ⟨hV,f⟩|⟨hV,f⟩
  ·have a3:ev=0:=by rcases h2 with ⟨a,_⟩|⟨_,_,⟨_,a⟩|⟨a,_⟩⟩;exact absurd hL a;exact a;exact absurd hV a
   rw [f];simp only [Option.bind_some]
   obtain ⟨e,e1,e2,e3⟩:=list_some s (by omega)
   rw [if_pos a3,if_pos trivial,show (49:Nat)=9+40 from rfl,e1]
   unfold r18_Stops.f
   rw [if_neg c1,if_neg c2,show 45+5=10+40 from rfl,e2]
   refine ⟨e,rfl,rfl,fun z=>⟨hK,hL,hV,by omega,by omega,?_⟩⟩
   rcases e3 with ⟨_,g⟩|⟨g,_⟩
   ·exact g
   ·exact absurd z g
  ·have a3:ev=2:=by rcases h2 with ⟨a,_⟩|⟨_,_,⟨a,_⟩|⟨_,a⟩⟩;exact absurd hL a;exact absurd a hV;exact a
   rw [f];simp only [Option.bind_some]
   rw [if_neg (by omega),if_neg (by decide),a3];exact ⟨2,rfl,rfl,fun h=>by omega⟩
 ·have a2:en=1:=by rcases h2 with ⟨_,a,_⟩|⟨a,_⟩;exact a;exact absurd a hL
  have a1:ek=0:=by rcases h1 with ⟨_,a⟩|⟨a,_⟩;exact a;exact absurd hK a
  rw [show 42+8=49+1 from rfl,e];simp only [Option.bind_some]
  rw [if_pos a1,if_neg (by omega),gr_Check.j0,if_pos rfl,if_neg (by decide)];exact ⟨1,rfl,rfl,fun h=>by omega⟩
 ·have a1:ek=8:=by rcases h1 with ⟨a,_⟩|⟨_,a⟩;exact absurd a hK;exact a
  rw [show 42+8=49+1 from rfl,e];simp only [Option.bind_some]
  rw [if_neg (by omega),if_neg (by decide),a1];exact ⟨8,rfl,rfl,fun h=>by omega⟩
end Go.Proofs.Ytmlcobnidfkhfaa.Q
namespace Go.Proofs.Ytmlcobnidfkhfaa.Q
open Go.RowKit Go.Proofs.YtmlcobnidfkhfaaW.PrintWords Go.Proofs.YtmlcobnidfkhfaaW.PrintLast Go.Proofs.YtmlcobnidfkhfaaW.PrintMore
set_option linter.unusedVariables false
set_option linter.unusedSimpArgs false

/-- four numbers of a pixel -/
def T4 (c:S38):Int × Int × Int × Int:=(c.f0,c.f1,c.f2,c.f3)
def fin (p:S38):S38:=if p.f3=0 then ⟨0,0,0,0⟩ else p
theorem fin_some (p:S38):(if p.f3=0 then some (0,0,0,0) else some (p.f0,p.f1,p.f2,p.f3))=some (T4 (fin p)):=by
 unfold fin;by_cases h:p.f3=0
 ·rw [if_pos h,if_pos h];rfl
 ·rw [if_neg h,if_neg h];rfl
theorem fin_a (p:S38):(fin p).f3=p.f3:=by
 unfold fin;by_cases h:p.f3=0
 ·rw [if_pos h,h]
 ·rw [if_neg h]
/-- the pixel between two -/
def mixp (a b:S38) (s:Int):S38 :=
 if dv (a.f3*(65535-s)+b.f3*s) 65535=0 then ⟨0,0,0,0⟩
 else ⟨dv (a.f0*(a.f3*(65535-s))+b.f0*(b.f3*s)) (a.f3*(65535-s)+b.f3*s),dv (a.f1*(a.f3*(65535-s))+b.f1*(b.f3*s)) (a.f3*(65535-s)+b.f3*s),dv (a.f2*(a.f3*(65535-s))+b.f2*(b.f3*s)) (a.f3*(65535-s)+b.f3*s),dv (a.f3*(65535-s)+b.f3*s) 65535⟩
theorem mixp_a (a b:S38) (s:Int):(mixp a b s).f3=dv (a.f3*(65535-s)+b.f3*s) 65535:=by
 unfold mixp;by_cases h:dv (a.f3*(65535-s)+b.f3*s) 65535=0
 ·rw [if_pos h,h]
 ·rw [if_neg h]
theorem pr_bd {x y:Int} (A B:Int) (hx:0≤x∧x≤A) (hy:0≤y∧y≤B):0≤x*y∧x*y≤A*B :=
 ⟨Int.mul_nonneg hx.1 hy.1,Int.mul_le_mul hx.2 hy.2 hy.1 (by omega)⟩
theorem mix_some (k:Nat) {a b:S38} {s:Int} (ha:Pv a) (hb:Pv b) (hs:Un s) :
  pixel_Mix.f (k+3) a.f0 a.f1 a.f2 a.f3 b.f0 b.f1 b.f2 b.f3 s=some (T4 (mixp a b s))∧r06_Mix.f (k+3) a.f0 a.f1 a.f2 a.f3 b.f0 b.f1 b.f2 b.f3 s=some (T4 (mixp a b s)):=by
 obtain ⟨a0,a1,a2,a3⟩:=ha
 obtain ⟨b0,b1,b2,b3⟩:=hb
 have P:=pr_bd 65535 65535 (x:=a.f3) (y:=65535-s) a3 (by unfold Un at hs;omega)
 have Q:=pr_bd 65535 65535 (x:=b.f3) (y:=s) b3 hs
 unfold pixel_Mix.f r06_Mix.f mixp
 rw [limit_some,limit_some,Limit_some,Limit_some,unit_some,U_some];simp only [Option.bind_some]
 rw [un_id a0,un_id a1,un_id a2,un_id a3,un_id b0,un_id b1,un_id b2,un_id b3,un_id hs]
 rw [w_in (n:=65535-s) (by unfold Un at hs;omega) (by unfold Un at hs;omega)]
 generalize a.f3*(65535-s)=p at *
 generalize b.f3*s=q at *
 rw [w_in (n:=p) (by omega) (by omega),w_in (n:=q) (by omega) (by omega),w_in (n:=p+q) (by omega) (by omega),div_pos _ _ _ (by omega) (by omega) (by omega),rdiv_pos _ _ _ (by omega) (by omega) (by omega)]
 simp only [Option.bind_some]
 by_cases z:dv (p+q) 65535=0
 ·simp only [if_pos z];exact ⟨rfl,rfl⟩
 ·simp only [if_neg z]
  have pq:0<p+q:=by
   refine Int.not_le.mp fun c=>z ?_
   unfold dv;omega
  have one:∀ (k:Nat) (x y:Int),Un x→Un y→pixel_Mix_1.f (k+1) x y p q (p+q)=some (dv (x*p+y*q) (p+q))∧r01_Div.f (k+1) (wrap64 (wrap64 (x*p)+wrap64 (y*q))) (p+q)=some (dv (x*p+y*q) (p+q)):=by
   intro k x y hx hy
   have X:=pr_bd 65535 (65535*65535) (x:=x) (y:=p) hx P
   have Y:=pr_bd 65535 (65535*65535) (x:=y) (y:=q) hy Q
   unfold pixel_Mix_1.f
   generalize x*p=u at *
   generalize y*q=v at *
   rw [w_in (n:=u) (by omega) (by omega),w_in (n:=v) (by omega) (by omega),w_in (n:=u+v) (by omega) (by omega),div_pos _ _ _ (by omega) (by omega) (by omega),rdiv_pos _ _ _ (by omega) (by omega) (by omega)]
   exact ⟨rfl,rfl⟩
  rw [pixel_Mix.j0,(one (k+1) _ _ a0 b0).1,(one (k+1) _ _ a1 b1).1,(one (k+1) _ _ a2 b2).1,(one (k+2) _ _ a0 b0).2,(one (k+2) _ _ a1 b1).2,(one (k+2) _ _ a2 b2).2]
  exact ⟨rfl,rfl⟩
theorem mix_between {a b:S38} {s lo hi:Int} (hs:Un s) (ha:lo≤a.f3∧a.f3≤hi) (hb:lo≤b.f3∧b.f3≤hi):lo≤(mixp a b s).f3∧(mixp a b s).f3≤hi:=by
 unfold Un at hs
 have m1:=Int.mul_le_mul_of_nonneg_right ha.1 (show 0≤65535-s by omega)
 have m2:=Int.mul_le_mul_of_nonneg_right hb.1 (show 0≤s by omega)
 have m3:=Int.mul_le_mul_of_nonneg_right ha.2 (show 0≤65535-s by omega)
 have m4:=Int.mul_le_mul_of_nonneg_right hb.2 (show 0≤s by omega)
 have e1:lo*(65535-s)+lo*s=65535*lo:=by grind
 have e2:hi*(65535-s)+hi*s=65535*hi:=by grind
 rw [mixp_a];unfold dv
 omega

theorem dv_un {a b:Int} (hb:0<b) (h:0≤a∧a≤65535*b):Un (dv a b):=by
 unfold dv Un
 constructor
 ·exact Int.ediv_nonneg (by omega) (by omega)
 ·have:(2*a+b) / (2*b)<65536:=by rw [Int.ediv_lt_iff_lt_mul (by omega)];omega
  omega
theorem stk_lt {l:List S47} (h:Stk l 0) (d:Nat):∀ i:Int,0≤i→i+d+1<l.length→(rd_T47 l i).f0<(rd_T47 l (i+d+1)).f0:=by
 induction d with
 | zero =>
  intro i h0 h1
  have:=(h (i+1) (by omega) (by omega)).2.2 (by omega)
  rw [show i+1-1=i by omega] at this
  rw [show i+(0:Nat)+1=i+1 by omega];exact this
 | succ d ih =>
  intro i h0 h1
  have a:=ih i h0 (by omega)
  have:=(h (i+d+1+1) (by omega) (by omega)).2.2 (by omega)
  rw [show i+d+1+1-1=i+d+1 by omega] at this
  rw [show i+(d+1:Nat)+1=i+d+1+1 by omega];omega
theorem stk_inj {l:List S47} (h:Stk l 0) {i j:Int} (h0:0≤i) (h1:i<j) (h2:j<l.length):(rd_T47 l i).f0<(rd_T47 l j).f0:=by
 have:=stk_lt h (j-i-1).toNat i h0 (by omega)
 rw [show i+((j-i-1).toNat:Int)+1=j by omega] at this;exact this

/-- behind the place the reference's loop changes nothing -/
theorem stay (l:List S47) (t:Int) (hS:Stk l 0) (hl:l.length≤100) (d:Nat):∀ (k:Nat) (i:Int) (p:S38),0<i→i+d=l.length→t≤(rd_T47 l (i-1)).f0 →
  r18_Color.l0 (k+3*d+1) l t (l.length:Int) i p.f0 p.f1 p.f2 p.f3=some (T4 (fin p)):=by
 induction d with
 | zero =>
  intro k i p h0 h1 ht
  rw [r18_Color.l0,if_neg (by omega),fin_some]
 | succ d ih =>
  intro k i p h0 h1 ht
  have lt:=(hS i (by omega) (by omega)).2.2 h0
  rw [show k+3*(d+1)+1=k+3*d+1+1+1+1 by omega,r18_Color.l0,if_pos (by omega),if_pos (by omega),if_pos (by omega),if_neg (by omega)]
  rw [r18_Color.j1,if_pos h0,w_in (n:=i-1) (by omega) (by omega),if_pos (by omega),if_pos (by omega),if_neg (by omega)]
  rw [r18_Color.j2,if_neg (by decide),w_in (n:=i+1) (by omega) (by omega)]
  exact ih k (i+1) p (by omega) (by omega) (by rw [show i+1-1=i by omega];omega)
/-- what a color is to its stops -/
def Col (l:List S47) (t:Int) (c:S38):Prop:=(∀ j:Int,0≤j→j<l.length→(rd_T47 l j).f0=t→c=fin (rd_T47 l j).f1)∧(∀ lo hi:Int,(∀ j:Int,0≤j→j<l.length→lo≤(rd_T47 l j).f1.f3∧(rd_T47 l j).f1.f3≤hi)→lo≤c.f3∧c.f3≤hi)
theorem color_l (l:List S47) (t:Int) (ht:Un t) (hS:Stk l 0) (hl:l.length≤100) (hn:0<l.length) (d:Nat):∀ (k:Nat) (i:Int),0≤i→i+d=l.length→(∀ j:Int,0≤j→j<i→(rd_T47 l j).f0<t) →
  ∃ c,Col l t c∧gr_color.l0 (k+d+6) l t l (l.length:Int) i (rd_T47 l (l.length-1)).f1.f0 (rd_T47 l (l.length-1)).f1.f1 (rd_T47 l (l.length-1)).f1.f2 (rd_T47 l (l.length-1)).f1.f3=some (T4 c) ∧
   (∀ p:S38,(i=0→p=(rd_T47 l 0).f1)→(0<i→p=(rd_T47 l (i-1)).f1)→r18_Color.l0 (k+3*d+6) l t (l.length:Int) i p.f0 p.f1 p.f2 p.f3=some (T4 c)):=by
 induction d with
 | zero =>
  intro k i h0 h1 hlt
  obtain rfl:i=l.length:=by omega
  refine ⟨fin (rd_T47 l (l.length-1)).f1,⟨fun j j0 j1 e=>?_,fun lo hi hb=>?_⟩,?_,fun p _ hp=>?_⟩
  ·have:=hlt j j0 j1;omega
  ·rw [fin_a];exact hb _ (by omega) (by omega)
  ·rw [gr_color.l0,if_neg (by omega),fin_some]
  ·rw [hp (by omega),r18_Color.l0,if_neg (by omega),fin_some]
 | succ d ih =>
  intro k i h0 h1 hlt
  have st:=hS i h0 (by omega)
  have eP:∀ (c:S38),c.f3=c.f3:=fun _=>rfl
  by_cases c1:t>(rd_T47 l i).f0
  ·obtain ⟨c,c2,c3,c4⟩:=ih k (i+1) (by omega) (by omega) (fun j j0 j1=>by
    by_cases e:j=i
    ·subst e;omega
    ·exact hlt j j0 (by omega))
   refine ⟨c,c2,?_,fun p hp0 hp=>?_⟩
   ·rw [show k+(d+1)+6=k+d+6+1 by omega,gr_color.l0,if_pos (by omega),if_pos h0,if_pos (by omega),if_pos c1,w_in (n:=i+1) (by omega) (by omega)];exact c3
   ·have g:=c4 (rd_T47 l i).f1 (fun h=>by omega) (fun _=>by rw [show i+1-1=i by omega])
    rw [show k+3*(d+1)+6=k+3*d+6+1+1+1 by omega,r18_Color.l0,if_pos (by omega),if_pos h0,if_pos (by omega),if_pos (by omega),r18_Color.j1]
    have nb:¬ t<(rd_T47 l i).f0:=by omega
    by_cases i0:i>0
    ·have:=hlt (i-1) (by omega) (by omega)
     rw [if_pos i0,w_in (n:=i-1) (by omega) (by omega),if_pos (by omega),if_pos (by omega),if_pos (by omega),if_pos (by omega),if_pos (by omega),decide_eq_false nb,r18_Color.j2,if_neg (by decide),w_in (n:=i+1) (by omega) (by omega)];exact g
    ·rw [if_neg i0,r18_Color.j2,if_neg (by decide),w_in (n:=i+1) (by omega) (by omega)];exact g
  by_cases c2:t=(rd_T47 l i).f0
  ·have nb:¬ t<(rd_T47 l i).f0:=by omega
   refine ⟨fin (rd_T47 l i).f1,⟨fun j j0 j1 e=>?_,fun lo hi hb=>?_⟩,?_,fun p hp0 hp=>?_⟩
   ·by_cases a:j=i
    ·rw [a]
    ·rcases Int.lt_or_gt_of_ne a with b|b
     ·have:=stk_inj hS j0 b (by omega);omega
     ·have:=stk_inj hS h0 b j1;omega
   ·rw [fin_a];exact hb _ h0 (by omega)
   ·rw [show k+(d+1)+6=k+d+5+1+1 by omega,gr_color.l0,if_pos (by omega),if_pos h0,if_pos (by omega),if_neg c1,decide_eq_false nb,ite_self,gr_color.j1,if_neg (by decide),fin_some]
   ·rw [show k+3*(d+1)+6=k+5+3*d+1+1+1+1 by omega,r18_Color.l0,if_pos (by omega),if_pos h0,if_pos (by omega),if_pos (by omega),r18_Color.j1]
    have g:=stay l t hS hl d (k+5) (i+1) (rd_T47 l i).f1 (by omega) (by omega) (by rw [show i+1-1=i by omega];omega)
    by_cases i0:i>0
    ·have:=hlt (i-1) (by omega) (by omega)
     rw [if_pos i0,w_in (n:=i-1) (by omega) (by omega),if_pos (by omega),if_pos (by omega),if_pos (by omega),if_pos (by omega),if_pos (by omega),decide_eq_false nb,r18_Color.j2,if_neg (by decide),w_in (n:=i+1) (by omega) (by omega)];exact g
    ·rw [if_neg i0,r18_Color.j2,if_neg (by decide),w_in (n:=i+1) (by omega) (by omega)];exact g
  have lt:t<(rd_T47 l i).f0:=by omega
  by_cases i0:i>0
  ·have lt':=hlt (i-1) (by omega) (by omega)
   have sp:=hS (i-1) (by omega) (by omega)
   have u0:=sp.1;have u1:=st.1
   unfold Un at u0 u1 ht
   have us:=dv_un (a:=65535*(t-(rd_T47 l (i-1)).f0)) (b:=(rd_T47 l i).f0-(rd_T47 l (i-1)).f0) (by omega) (by omega)
   have dd:∀ k,num_Div.f (k+1) (wrap64 (65535*wrap64 (t-(rd_T47 l (i-1)).f0))) (wrap64 ((rd_T47 l i).f0-(rd_T47 l (i-1)).f0))=some (dv (65535*(t-(rd_T47 l (i-1)).f0)) ((rd_T47 l i).f0-(rd_T47 l (i-1)).f0))∧r01_Div.f (k+1) (wrap64 (65535*wrap64 (t-(rd_T47 l (i-1)).f0))) (wrap64 ((rd_T47 l i).f0-(rd_T47 l (i-1)).f0))=some (dv (65535*(t-(rd_T47 l (i-1)).f0)) ((rd_T47 l i).f0-(rd_T47 l (i-1)).f0)):=fun k=>by
    rw [w_in (n:=t-(rd_T47 l (i-1)).f0) (by omega) (by omega),w_in (n:=65535*(t-(rd_T47 l (i-1)).f0)) (by omega) (by omega),w_in (n:=(rd_T47 l i).f0-(rd_T47 l (i-1)).f0) (by omega) (by omega),div_pos _ _ _ (by omega) (by omega) (by omega),rdiv_pos _ _ _ (by omega) (by omega) (by omega)]
    exact ⟨rfl,rfl⟩
   generalize dv (65535*(t-(rd_T47 l (i-1)).f0)) ((rd_T47 l i).f0-(rd_T47 l (i-1)).f0)=s at *
   have mx:=fun k=>mix_some k sp.2.1 st.2.1 us
   refine ⟨fin (mixp (rd_T47 l (i-1)).f1 (rd_T47 l i).f1 s),⟨fun j j0 j1 e=>?_,fun lo hi hb=>?_⟩,?_,fun p hp0 hp=>?_⟩
   ·by_cases a:j<i
    ·have:=hlt j j0 a;omega
    ·by_cases b:j=i
     ·subst b;omega
     ·have:=stk_inj hS h0 (show i<j by omega) j1;omega
   ·rw [fin_a];exact mix_between us (hb _ (by omega) (by omega)) (hb _ h0 (by omega))
   ·rw [show k+(d+1)+6=k+d+2+3+1+1 by omega,gr_color.l0,if_pos (by omega),if_pos h0,if_pos (by omega),if_neg c1,if_pos i0,decide_eq_true lt,gr_color.j1,if_pos rfl,w_in (n:=i-1) (by omega) (by omega),if_pos (by omega),if_pos (by omega),(dd _).1]
    simp only [Option.bind_some]
    rw [(mx _).1];simp only [Option.bind_some]
    exact fin_some _
   ·rw [show k+3*(d+1)+6=k+5+3*d+1+1+1+1 by omega,r18_Color.l0,if_pos (by omega),if_pos h0,if_pos (by omega),if_neg (by omega),r18_Color.j1]
    rw [if_pos i0,w_in (n:=i-1) (by omega) (by omega),if_pos (by omega),if_pos (by omega),if_pos (by omega),if_pos (by omega),if_pos (by omega),decide_eq_true lt,r18_Color.j2,if_pos rfl,w_in (n:=i-1) (by omega) (by omega),if_pos (by omega),if_pos (by omega),if_pos (by omega),if_pos (by omega),(dd _).2]
    simp only [Option.bind_some]
    rw [show k+5+3*d+1=k+3*d+3+3 by omega,(mx _).2];simp only [Option.bind_some]
    rw [w_in (n:=i+1) (by omega) (by omega)]
    have g:=stay l t hS hl d (k+5) (i+1) (mixp (rd_T47 l (i-1)).f1 (rd_T47 l i).f1 s) (by omega) (by omega) (by rw [show i+1-1=i by omega];omega)
    rw [show k+5+3*d+1=k+3*d+3+3 by omega] at g;exact g
  ·obtain rfl:i=0:=by omega
   refine ⟨fin (rd_T47 l 0).f1,⟨fun j j0 j1 e=>?_,fun lo hi hb=>?_⟩,?_,fun p hp0 hp=>?_⟩
   ·by_cases b:j=0
    ·subst b;rfl
    ·have:=stk_inj hS h0 (show 0<j by omega) j1;omega
   ·rw [fin_a];exact hb _ h0 (by omega)
   ·rw [show k+(d+1)+6=k+d+5+1+1 by omega,gr_color.l0,if_pos (by omega),if_pos h0,if_pos (by omega),if_neg c1,if_neg i0,gr_color.j1,if_neg (by decide),fin_some]
   ·rw [hp0 rfl,show k+3*(d+1)+6=k+5+3*d+1+1+1+1 by omega,r18_Color.l0,if_pos (by omega),if_pos h0,if_pos (by omega),if_neg (by omega),r18_Color.j1,if_neg i0,r18_Color.j2,if_neg (by decide),w_in (n:=0+1) (by omega) (by omega)]
    exact stay l t hS hl d (k+5) (0+1) (rd_T47 l 0).f1 (by omega) (by omega) (by rw [show (0:Int)+1-1=0 by omega];omega)
/-- the color at a unit value, of valid stops -/
theorem color_ok {l:List S47} (h:Sok l) {t:Int} (ht:Un t):∃ c,Col l t c∧(∀ k,gr_color.f (k+60) l t=some (T4 c))∧(∀ k,r18_Color.l0 (k+60) l t (l.length:Int) 0 (rd_T47 l 0).f1.f0 (rd_T47 l 0).f1.f1 (rd_T47 l 0).f1.f2 (rd_T47 l 0).f1.f3=some (T4 c)):=by
 obtain ⟨h0,h1,h2⟩:=h
 obtain ⟨c,c1,c2,c3⟩:=color_l l t ht h2 (by omega) h0 l.length (54-3*l.length) 0 (by omega) (by omega) (fun j a b=>by omega)
 refine ⟨c,c1,fun k=>?_,fun k=>?_⟩
 ·refine lift (f:=fun k=>gr_color.f k l t) (fun k=>gr_color.mono _ _ _) (K:=60) ?_ k
  have c4:=lift (f:=fun k=>gr_color.l0 k l t l (l.length:Int) 0 (rd_T47 l (l.length-1)).f1.f0 (rd_T47 l (l.length-1)).f1.f1 (rd_T47 l (l.length-1)).f1.f2 (rd_T47 l (l.length-1)).f1.f3) (fun k=>(gr_color.mono_l k).1 _ _ _ _ _ _ _ _ _) c2 (2*l.length)
  rw [show 2*l.length+(54-3*l.length+l.length+6)=60 by omega] at c4
  show gr_color.f 60 l t=_
  unfold gr_color.f
  rw [w_in (n:=(l.length:Int)-1) (by omega) (by omega),if_pos (by omega),if_pos (by omega)];exact c4
 ·have c4:=c3 (rd_T47 l 0).f1 (fun _=>rfl) (fun h=>absurd h (by omega))
  rw [show 54-3*l.length+3*l.length+6=60 by omega] at c4
  exact lift (f:=fun k=>r18_Color.l0 k l t (l.length:Int) 0 (rd_T47 l 0).f1.f0 (rd_T47 l 0).f1.f1 (rd_T47 l 0).f1.f2 (rd_T47 l 0).f1.f3) (fun k=>(r18_Color.mono_l k).1 _ _ _ _ _ _ _ _) c4 k
end Go.Proofs.Ytmlcobnidfkhfaa.Q
namespace Go.Proofs.Ytmlcobnidfkhfaa.Q
open Go.RowKit Go.Proofs.YtmlcobnidfkhfaaW.PrintWords Go.Proofs.YtmlcobnidfkhfaaW.PrintLast Go.Proofs.YtmlcobnidfkhfaaW.PrintMore
set_option linter.unusedVariables false
set_option linter.unusedSimpArgs false

/-- a row of d pixels from x on -/
def rowp (P:Int→Int→S38) (y:Int):Int→Nat→List S38
 | _,0=>[]
 | x,d+1=>P x y :: rowp P y (x+1) d
/-- h rows of W pixels from y on -/
def rows (P:Int→Int→S38) (X:Int) (W:Nat):Int→Nat→List S38
 | _,0=>[]
 | y,h+1=>rowp P y X W++rows P X W (y+1) h
theorem rowp_len (P:Int→Int→S38) (y:Int) (d:Nat):∀ x,(rowp P y x d).length=d:=by
 induction d with
 | zero=>intro x;rfl
 | succ d ih=>intro x;rw [rowp,List.length_cons,ih]
theorem rows_len (P:Int→Int→S38) (X:Int) (W h:Nat):∀ y,(rows P X W y h).length=h*W:=by
 induction h with
 | zero=>intro y;rw [Nat.zero_mul];rfl
 | succ h ih=>intro y;rw [rows,List.length_append,rowp_len,ih,Nat.succ_mul];omega
theorem rowp_at (P:Int→Int→S38) (y:Int) (d:Nat):∀ (x:Int) (i:Nat),i<d→(rowp P y x d).getD i z38=P (x+i) y:=by
 induction d with
 | zero=>intro x i h;omega
 | succ d ih =>
  intro x i h
  rw [rowp]
  cases i with
  | zero=>rw [show x+((0:Nat):Int)=x by omega];rfl
  | succ i =>
   rw [show x+((i+1:Nat):Int)=(x+1)+(i:Int) by omega,← ih (x+1) i (by omega)];rfl
theorem rows_at (P:Int→Int→S38) (X:Int) (W:Nat) (h:Nat):∀ (y:Int) (j i:Nat),j<h→i<W→(rows P X W y h).getD (j*W+i) z38=P (X+i) (y+j):=by
 induction h with
 | zero=>intro y j i hj;omega
 | succ h ih =>
  intro y j i hj hi
  rw [rows,List.getD_eq_getElem?_getD]
  cases j with
  | zero =>
   rw [Nat.zero_mul,Nat.zero_add,List.getElem?_append_left (by rw [rowp_len];exact hi),← List.getD_eq_getElem?_getD,rowp_at P y W X i hi,show y+((0:Nat):Int)=y by omega]
  | succ j =>
   rw [List.getElem?_append_right (by rw [rowp_len,Nat.succ_mul];omega),rowp_len,Nat.succ_mul,show j*W+W+i-W=j*W+i by omega,← List.getD_eq_getElem?_getD,ih (y+1) j i (by omega) hi,show y+1+(j:Int)=y+((j+1:Nat):Int) by omega]

/-- the color at a unit value, of valid stops -/
def cpx (s:List S47) (t:Int):S38:=⟨((gr_color.f 60 s t).getD (0,0,0,0)).1,((gr_color.f 60 s t).getD (0,0,0,0)).2.1,((gr_color.f 60 s t).getD (0,0,0,0)).2.2.1,((gr_color.f 60 s t).getD (0,0,0,0)).2.2.2⟩
theorem cpx_ok {s:List S47} (h:Sok s) {t:Int} (ht:Un t):(∀ k,gr_color.f (k+60) s t=some (T4 (cpx s t)))∧(∀ k,r18_Color.l0 (k+60) s t (s.length:Int) 0 (rd_T47 s 0).f1.f0 (rd_T47 s 0).f1.f1 (rd_T47 s 0).f1.f2 (rd_T47 s 0).f1.f3=some (T4 (cpx s t))):=by
 obtain ⟨c,_,c1,c2⟩:=color_ok h ht
 have e:cpx s t=c:=by
  have z:=c1 0
  rw [Nat.zero_add] at z
  unfold cpx;rw [z];rfl
 rw [e];exact ⟨c1,c2⟩
/-- a pixel -/
def pix (kind:Int) (l:List Int) (spread:Int) (s:List S47) (x y:Int):S38:=cpx s (pl kind l spread x y)
theorem pl_un (kind:Int) (l:List Int) (spread x y:Int):Un (pl kind l spread x y):=sp_bd _ _

theorem draw_row {kind:Int} {l:List Int} {spread:Int} {s:List S47} (hK:Kok kind spread) (hL:Lok kind l) (hV:Vok kind l) (hS:Sok s) {X Y W H:Int} (hX:-1048576≤X) (hW:X+W≤1048576) (y w h:Int) (d:Nat):∀ (k:Nat) (x:Int) (acc:List S38),X≤x→x+d=X+W→acc.length+d<4398046511104 →
  gr_Draw.l1 (k+d+100) kind l spread s y x X Y W H w h acc=gr_Draw.l0 (k+99) kind l spread s (wrap64 (y+1)) X Y W H w h (acc++rowp (pix kind l spread s) y x d):=by
 induction d with
 | zero =>
  intro k x acc h0 h1 h2
  rw [show k+0+100=k+99+1 by omega,gr_Draw.l1,w_in (n:=X+W) (by omega) (by omega),if_neg (by omega),rowp,List.append_nil]
 | succ d ih =>
  intro k x acc h0 h1 h2
  rw [show k+(d+1)+100=k+d+100+1 by omega,gr_Draw.l1,w_in (n:=X+W) (by omega) (by omega),if_pos (by omega)]
  rw [show k+d+100=k+d+20+80 by omega,(place_some (k+d+20) kind l spread x y hK hL hV).1];simp only [Option.bind_some]
  rw [show k+d+20+80=k+d+40+60 by omega,(cpx_ok hS (pl_un kind l spread x y)).1];simp only [Option.bind_some]
  rw [if_pos (by omega),w_in (n:=x+1) (by omega) (by omega),show k+d+40+60=k+d+100 by omega]
  have g:=ih k (x+1) (acc++[pix kind l spread s x y]) (by omega) (by omega) (by rw [List.length_append,List.length_singleton];omega)
  rw [List.append_assoc,List.singleton_append] at g
  rw [rowp];exact g
theorem draw_rows {kind:Int} {l:List Int} {spread:Int} {s:List S47} (hK:Kok kind spread) (hL:Lok kind l) (hV:Vok kind l) (hS:Sok s) {X Y H:Int} {W:Nat} (hX:-1048576≤X) (hW:X+W≤1048576) (hY:-1048576≤Y) (hH:Y+H≤1048576) (w h:Int) (e:Nat):∀ (k:Nat) (y:Int) (acc:List S38),Y≤y→y+e=Y+H→acc.length+e*W<4398046511104 →
  gr_Draw.l0 (k+e*(W+2)+200) kind l spread s y X Y W H w h acc=some (w,h,acc++rows (pix kind l spread s) X W y e,0):=by
 induction e with
 | zero =>
  intro k y acc h0 h1 h2
  rw [show k+0*(W+2)+200=k+199+1 by omega,gr_Draw.l0,w_in (n:=Y+H) (by omega) (by omega),if_neg (by omega),rows,List.append_nil]
 | succ e ih =>
  intro k y acc h0 h1 h2
  rw [Nat.succ_mul] at h2
  have g:=ih k (y+1) (acc++rowp (pix kind l spread s) y X W) (by omega) (by omega) (by rw [List.length_append,rowp_len];omega)
  have r:=draw_row hK hL hV hS (X:=X) (Y:=Y) (W:=W) (H:=H) hX hW y w h W (k+e*(W+2)+101) X acc (by omega) (by omega) (by omega)
  rw [show k+e*(W+2)+101+99=k+e*(W+2)+200 by omega,w_in (n:=y+1) (by omega) (by omega),g,List.append_assoc] at r
  rw [Nat.succ_mul,show k+(e*(W+2)+(W+2))+200=k+e*(W+2)+101+W+100+1 by omega,gr_Draw.l0,w_in (n:=Y+H) (by omega) (by omega),if_pos (by omega),r,rows]

/-- a valid side, a valid rectangle -/
def Sv (a n:Int):Prop:=-1048576≤a∧a≤1048576∧0≤n∧n≤1048576-a
instance (a n:Int):Decidable (Sv a n):=by unfold Sv;infer_instance
theorem span_some (a n:Int):rect_span.f a n=some (decide (Sv a n)):=by
 unfold rect_span.f
 by_cases c1:a≥-1048576
 ·rw [if_pos c1]
  by_cases c2:a≤1048576
  ·rw [if_pos c2]
   by_cases c3:n≥0
   ·rw [if_pos c3,w_in (by omega) (by omega)];congr 1;exact decide_eq_decide.mpr ⟨fun h=>⟨c1,c2,c3,h⟩,fun h=>h.2.2.2⟩
   ·rw [if_neg c3,decide_eq_false (fun h:Sv a n=>c3 h.2.2.1)]
  ·rw [if_neg c2,decide_eq_false (fun h:Sv a n=>c2 h.2.1)]
 ·rw [if_neg c1,decide_eq_false (fun h:Sv a n=>c1 h.1)]
theorem rvalid_some (X Y W H:Int):rect_Valid.f X Y W H=some (decide (Sv X W∧Sv Y H)):=by
 unfold rect_Valid.f
 rw [span_some,span_some];simp only [Option.bind_some]
 by_cases c:Sv X W
 ·rw [decide_eq_true c,if_pos rfl];congr 1;exact decide_eq_decide.mpr ⟨fun h=>⟨c,h⟩,fun h=>h.2⟩
 ·rw [decide_eq_false c,if_neg (by decide),decide_eq_false (fun h:Sv X W∧Sv Y H=>c h.1)]
theorem empty_some {X Y W H:Int} (h:Sv X W∧Sv Y H):rect_Empty.f X Y W H=some (decide (W=0 ∨ H=0)):=by
 unfold rect_Empty.f rect_known.f
 rw [rvalid_some,decide_eq_true h];simp only [Option.bind_some]
 rw [if_pos trivial];simp only [Option.bind_some]
 by_cases c:W=0
 ·rw [if_pos c,decide_eq_true (Or.inl c)]
 ·rw [if_neg c];congr 1
  by_cases d:H=0
  ·rw [beq_iff_eq.mpr d,decide_eq_true (Or.inr d)]
  ·rw [beq_eq_false_iff_ne.mpr d,decide_eq_false (fun h=>h.elim c d)]
/-- what Draw gives, where e is what Check says -/
def drawn (e kind:Int) (l:List Int) (spread:Int) (s:List S47) (X Y W H:Int):Int × Int × List S38 × Int :=
 if e=0 then (if Sv X W∧Sv Y H then (if W>256 ∨ H>256 then (0,0,[],15) else if W=0 ∨ H=0 then (0,0,[],0) else (W,H,rows (pix kind l spread s) X W.toNat Y H.toNat,0)) else (0,0,[],2)) else (0,0,[],e)
theorem draw_some {kind:Int} {l:List Int} {spread:Int} {s:List S47} {e:Int} (he:∀ k,gr_Check.f (k+50) kind l spread s=some e) (hg:e=0→Kok kind spread∧Lok kind l∧Vok kind l∧Sok s) (X Y W H:Int) (k:Nat) :
  gr_Draw.f (k+70000) kind l spread s X Y W H=some (drawn e kind l spread s X Y W H):=by
 unfold gr_Draw.f drawn
 rw [show k+70000=k+69950+50 by omega,he];simp only [Option.bind_some]
 by_cases e0:e=0
 ·obtain ⟨hK,hL,hV,hS⟩:=hg e0
  rw [if_pos e0,if_pos e0,rvalid_some];simp only [Option.bind_some]
  by_cases v:Sv X W∧Sv Y H
  ·rw [decide_eq_true v,if_pos rfl,if_pos v]
   obtain ⟨⟨v1,v2,v3,v4⟩,v5,v6,v7,v8⟩:=v
   by_cases b1:W>256
   ·rw [if_pos b1,if_pos (Or.inl b1),gr_Draw.j0,if_pos rfl]
   rw [if_neg b1]
   by_cases b2:H>256
   ·rw [decide_eq_true b2,if_pos (Or.inr b2),gr_Draw.j0,if_pos rfl]
   rw [decide_eq_false b2,if_neg (fun h=>h.elim b1 b2),gr_Draw.j0,if_neg (by decide),empty_some ⟨⟨v1,v2,v3,v4⟩,v5,v6,v7,v8⟩];simp only [Option.bind_some]
   by_cases z:W=0 ∨ H=0
   ·rw [decide_eq_true z,if_pos rfl,if_pos z]
   ·rw [decide_eq_false z,if_neg (by decide),if_neg z]
    obtain ⟨w,rfl⟩:∃ w:Nat,W=w:=⟨W.toNat,by omega⟩
    obtain ⟨h,rfl⟩:∃ h:Nat,H=h:=⟨H.toNat,by omega⟩
    have m:h*w≤256*256:=Nat.mul_le_mul (by omega) (by omega)
    have m2:h*(w+2)≤256*258:=Nat.mul_le_mul (by omega) (by omega)
    have mi:((w:Int)*(h:Int))=((h*w:Nat):Int):=by push_cast;exact Int.mul_comm _ _
    rw [mi,w_in (n:=((h*w:Nat):Int)) (by omega) (by omega),if_pos (by omega),if_pos (by omega),Int.toNat_natCast,Int.toNat_natCast]
    have g:=draw_rows hK hL hV hS (X:=X) (Y:=Y) (H:=h) (W:=w) v1 (by omega) v5 (by omega) w h h (k+69999-200-h*(w+2)) Y [] (by omega) (by omega) (by rw [List.length_nil];omega)
    rw [show k+69999-200-h*(w+2)+h*(w+2)+200=k+69950+49 by omega,List.nil_append] at g
    exact g
  ·rw [decide_eq_false v,if_neg (by decide),if_neg v]
 ·rw [if_neg e0,if_neg e0]
end Go.Proofs.Ytmlcobnidfkhfaa.Q
namespace Go.Proofs.Ytmlcobnidfkhfaa.Q
open Go.RowKit Go.Proofs.YtmlcobnidfkhfaaW.PrintWords Go.Proofs.YtmlcobnidfkhfaaW.PrintLast Go.Proofs.YtmlcobnidfkhfaaW.PrintMore
set_option linter.unusedVariables false
set_option linter.unusedSimpArgs false

theorem rcolor_ok {s:List S47} (h:Sok s) {t:Int} (ht:Un t) (k:Nat):r18_Color.f (k+70) s t=some (T4 (cpx s t)):=by
 obtain ⟨e,s1,s2⟩:=Stops_some s
 have e0:e=0:=by rcases s2 with ⟨a,_⟩|⟨_,a⟩;exact a;exact absurd h a
 unfold r18_Color.f
 rw [show k+70=k+30+40 by omega,s1];simp only [Option.bind_some]
 rw [if_pos e0,U_some,un_id ht];simp only [Option.bind_some]
 rw [if_pos (by have:=h.1;omega),show k+30+40=k+10+60 by omega,(cpx_ok h ht).2]
theorem rplace_ok {kind:Int} {l:List Int} {spread:Int} (hK:Kok kind spread) (hL:Lok kind l) (hV:Vok kind l) (x y:Int) (k:Nat):r18_Place.f (k+90) kind l spread x y=some (pl kind l spread x y):=by
 rcases Place_some k kind l spread x y with ⟨_,_,_,_,h⟩|⟨h,_⟩
 ·exact h
 ·exact absurd ⟨hK,hL,hV⟩ h
theorem rdraw_row {kind:Int} {l:List Int} {spread:Int} {s:List S47} (hK:Kok kind spread) (hL:Lok kind l) (hV:Vok kind l) (hS:Sok s) {X Y W H:Int} (hX:-1048576≤X) (hW:X+W≤1048576) (y w h:Int) (d:Nat):∀ (k:Nat) (x:Int) (acc:List S38),X≤x→x+d=X+W→acc.length+d<4398046511104 →
  r18_Draw.l1 (k+d+100) kind l spread s y x X Y W H w h acc=r18_Draw.l0 (k+99) kind l spread s (wrap64 (y+1)) X Y W H w h (acc++rowp (pix kind l spread s) y x d):=by
 induction d with
 | zero =>
  intro k x acc h0 h1 h2
  rw [show k+0+100=k+99+1 by omega,r18_Draw.l1,w_in (n:=X+W) (by omega) (by omega),if_neg (by omega),rowp,List.append_nil]
 | succ d ih =>
  intro k x acc h0 h1 h2
  rw [show k+(d+1)+100=k+d+100+1 by omega,r18_Draw.l1,w_in (n:=X+W) (by omega) (by omega),if_pos (by omega)]
  rw [show k+d+100=k+d+10+90 by omega,rplace_ok hK hL hV];simp only [Option.bind_some]
  rw [show k+d+10+90=k+d+30+70 by omega,rcolor_ok hS (pl_un kind l spread x y)];simp only [Option.bind_some]
  rw [if_pos (by omega),w_in (n:=x+1) (by omega) (by omega),show k+d+30+70=k+d+100 by omega]
  have g:=ih k (x+1) (acc++[pix kind l spread s x y]) (by omega) (by omega) (by rw [List.length_append,List.length_singleton];omega)
  rw [List.append_assoc,List.singleton_append] at g
  rw [rowp];exact g
theorem rdraw_rows {kind:Int} {l:List Int} {spread:Int} {s:List S47} (hK:Kok kind spread) (hL:Lok kind l) (hV:Vok kind l) (hS:Sok s) {X Y H:Int} {W:Nat} (hX:-1048576≤X) (hW:X+W≤1048576) (hY:-1048576≤Y) (hH:Y+H≤1048576) (w h:Int) (e:Nat):∀ (k:Nat) (y:Int) (acc:List S38),Y≤y→y+e=Y+H→acc.length+e*W<4398046511104 →
  r18_Draw.l0 (k+e*(W+2)+200) kind l spread s y X Y W H w h acc=some (w,h,acc++rows (pix kind l spread s) X W y e,0):=by
 induction e with
 | zero =>
  intro k y acc h0 h1 h2
  rw [show k+0*(W+2)+200=k+199+1 by omega,r18_Draw.l0,w_in (n:=Y+H) (by omega) (by omega),if_neg (by omega),rows,List.append_nil]
 | succ e ih =>
  intro k y acc h0 h1 h2
  rw [Nat.succ_mul] at h2
  have g:=ih k (y+1) (acc++rowp (pix kind l spread s) y X W) (by omega) (by omega) (by rw [List.length_append,rowp_len];omega)
  have r:=rdraw_row hK hL hV hS (X:=X) (Y:=Y) (W:=W) (H:=H) hX hW y w h W (k+e*(W+2)+101) X acc (by omega) (by omega) (by omega)
  rw [show k+e*(W+2)+101+99=k+e*(W+2)+200 by omega,w_in (n:=y+1) (by omega) (by omega),g,List.append_assoc] at r
  rw [Nat.succ_mul,show k+(e*(W+2)+(W+2))+200=k+e*(W+2)+101+W+100+1 by omega,r18_Draw.l0,w_in (n:=Y+H) (by omega) (by omega),if_pos (by omega),r,rows]
theorem Rvalid_some (X Y W H:Int):r02_Valid.f X Y W H=some (decide (Sv X W∧Sv Y H)):=by
 unfold r02_Valid.f
 have no:¬ (Sv X W∧Sv Y H)→some false=some (decide (Sv X W∧Sv Y H)):=fun h=>by rw [decide_eq_false h]
 by_cases c1:X < -1048576
 ·rw [if_pos c1];exact no fun h=>by have:=h.1.1;omega
 rw [if_neg c1]
 by_cases c2:X>1048576
 ·rw [if_pos c2];exact no fun h=>by have:=h.1.2.1;omega
 rw [if_neg c2]
 by_cases c3:Y < -1048576
 ·rw [if_pos c3];exact no fun h=>by have:=h.2.1;omega
 rw [if_neg c3]
 by_cases c4:Y>1048576
 ·rw [if_pos c4];exact no fun h=>by have:=h.2.2.1;omega
 rw [if_neg c4]
 by_cases c5:W≥0
 ·rw [if_pos c5]
  by_cases c6:H≥0
  ·rw [if_pos c6,w_in (n:=1048576-X) (by omega) (by omega),w_in (n:=1048576-Y) (by omega) (by omega)]
   by_cases c7:W≤1048576-X
   ·rw [if_pos c7];congr 1
    exact decide_eq_decide.mpr ⟨fun h=>⟨⟨by omega,by omega,c5,c7⟩,by omega,by omega,c6,h⟩,fun h=>h.2.2.2.2⟩
   ·rw [if_neg c7];exact no fun h=>c7 h.1.2.2.2
  ·rw [if_neg c6];exact no fun h=>c6 h.2.2.2.1
 ·rw [if_neg c5];exact no fun h=>c5 h.1.2.2.1
theorem Rempty_some {X Y W H:Int} (h:Sv X W∧Sv Y H):r02_Empty.f X Y W H=some (decide (W=0 ∨ H=0)):=by
 unfold r02_Empty.f
 rw [Rvalid_some,decide_eq_true h];simp only [Option.bind_some]
 rw [if_pos trivial]
 by_cases c:W=0
 ·rw [if_pos c,decide_eq_true (Or.inl c)]
 ·rw [if_neg c];congr 1
  by_cases d:H=0
  ·rw [beq_iff_eq.mpr d,decide_eq_true (Or.inr d)]
  ·rw [beq_eq_false_iff_ne.mpr d,decide_eq_false (fun h=>h.elim c d)]
theorem rdraw_some {kind:Int} {l:List Int} {spread:Int} {s:List S47} {e:Int} (he:∀ k,r18_Check.f (k+50) kind l spread s=some e) (hg:e=0→Kok kind spread∧Lok kind l∧Vok kind l∧Sok s) (X Y W H:Int) (k:Nat) :
  r18_Draw.f (k+70000) kind l spread s X Y W H=some (drawn e kind l spread s X Y W H):=by
 unfold r18_Draw.f drawn
 rw [show k+70000=k+69950+50 by omega,he];simp only [Option.bind_some]
 by_cases e0:e=0
 ·obtain ⟨hK,hL,hV,hS⟩:=hg e0
  rw [if_pos e0,if_pos e0,Rvalid_some];simp only [Option.bind_some]
  by_cases v:Sv X W∧Sv Y H
  ·rw [decide_eq_true v,if_pos rfl,if_pos v]
   obtain ⟨⟨v1,v2,v3,v4⟩,v5,v6,v7,v8⟩:=v
   by_cases b1:W>256
   ·rw [if_pos b1,if_pos (Or.inl b1),r18_Draw.j0,if_pos rfl]
   rw [if_neg b1]
   by_cases b2:H>256
   ·rw [decide_eq_true b2,if_pos (Or.inr b2),r18_Draw.j0,if_pos rfl]
   rw [decide_eq_false b2,if_neg (fun h=>h.elim b1 b2),r18_Draw.j0,if_neg (by decide),Rempty_some ⟨⟨v1,v2,v3,v4⟩,v5,v6,v7,v8⟩];simp only [Option.bind_some]
   by_cases z:W=0 ∨ H=0
   ·rw [decide_eq_true z,if_pos rfl,if_pos z]
   ·rw [decide_eq_false z,if_neg (by decide),if_neg z]
    obtain ⟨w,rfl⟩:∃ w:Nat,W=w:=⟨W.toNat,by omega⟩
    obtain ⟨h,rfl⟩:∃ h:Nat,H=h:=⟨H.toNat,by omega⟩
    have m:h*w≤256*256:=Nat.mul_le_mul (by omega) (by omega)
    have m2:h*(w+2)≤256*258:=Nat.mul_le_mul (by omega) (by omega)
    rw [Int.toNat_natCast,Int.toNat_natCast]
    have g:=rdraw_rows hK hL hV hS (X:=X) (Y:=Y) (H:=h) (W:=w) v1 (by omega) v5 (by omega) w h h (k+69999-200-h*(w+2)) Y [] (by omega) (by omega) (by rw [List.length_nil];omega)
    rw [show k+69999-200-h*(w+2)+h*(w+2)+200=k+69950+49 by omega,List.nil_append] at g
    exact g
  ·rw [decide_eq_false v,if_neg (by decide),if_neg v]
 ·rw [if_neg e0,if_neg e0]
end Go.Proofs.Ytmlcobnidfkhfaa.Q
namespace Go.Proofs.Ytmlcobnidfkhfaa.Q
open Go.RowKit Go.Proofs.YtmlcobnidfkhfaaW.PrintWords Go.Proofs.YtmlcobnidfkhfaaW.PrintLast Go.Proofs.YtmlcobnidfkhfaaW.PrintMore
theorem ex_some:w18_awake.f 90=some true:=by decide +kernel
theorem ex_at (k:Nat):w18_awake.f (k+90)=some true:=by
 induction k with
 | zero=>exact ex_some
 | succ k ih=>exact w18_awake.mono (k+90) _ ih
end Go.Proofs.Ytmlcobnidfkhfaa.Q
