/- Plain laws of quotients, checks and colors: the program's are the reference's. -/
import Derived.Test.YtmlcobnidfkhfaaQ4
import Derived.Test.YtmlcobnidfkhfaaQ15
import Derived.Test.YtmlcobnidfkhfaaQ2
import Derived.Test.YtmlcobnidfkhfaaQ3
import Derived.Test.YtmlcobnidfkhfaaQ9
import Derived.Test.YtmlcobnidfkhfaaQ11
import Derived.Test.YtmlcobnidfkhfaaQ17
import Derived.Test.YtmlcobnidfkhfaaQ13
namespace Go.Proofs.Ytmlcobnidfkhfaa.Q
open Go.RowKit Go.Proofs.YtmlcobnidfkhfaaW.PrintWords Go.Proofs.YtmlcobnidfkhfaaW.PrintLast Go.Proofs.YtmlcobnidfkhfaaW.PrintMore
set_option linter.unusedVariables false
set_option linter.unusedSimpArgs false

theorem w_in {n:Int} (h1:-9223372036854775808≤n) (h2:n≤9223372036854775807):wrap64 n = n:=by unfold wrap64;omega
theorem wf_bd {n:Int} (h:(Lit.int .i64 n).wf = true):-9223372036854775808≤n∧n≤9223372036854775807:=by
 simp only [Lit.wf,IntKind.min,IntKind.max,IntKind.signed,IntKind.bits,Bool.and_eq_true,decide_eq_true_eq,if_true] at h
 omega
theorem u_in {n:Int} (h1:0≤n) (h2:n≤18446744073709551615):IntKind.u64.wrap n = n:=by
 have h:IntKind.u64.wrap n = n % 18446744073709551616:=rfl
 rw [h];omega

theorem div_lo {a b:Int} (hb:0 < b) (h1:-9223372036854775808≤a):-9223372036854775808≤a / b:=by
 rw [Int.le_ediv_iff_mul_le hb]
 have:(-9223372036854775808) * b≤(-9223372036854775808) * 1:=Int.mul_le_mul_of_nonpos_left (by omega) (by omega)
 omega
theorem div_hi {a b:Int} (hb:0 < b) (h2:a≤9223372036854775807):a / b≤9223372036854775807:=by
 have:a / b < 9223372036854775808:=by
  rw [Int.ediv_lt_iff_lt_mul hb]
  have:9223372036854775808 * 1≤9223372036854775808 * b:=Int.mul_le_mul_of_nonneg_left (by omega) (by omega)
  omega
 omega

theorem tdiv_pos {a b:Int} (h:0≤a ∨ Int.tmod a b = 0):Int.tdiv a b = a / b:=by
 rw [Int.tdiv_eq_ediv]
 rw [if_pos (by rcases h with h|h;exact .inl h;exact .inr (Int.dvd_of_tmod_eq_zero h))];omega
theorem tdiv_neg {a b:Int} (hb:0 < b) (h:a < 0) (h0:¬ Int.tmod a b = 0):Int.tdiv a b = a / b + 1:=by
 rw [Int.tdiv_eq_ediv]
 rw [if_neg (by rintro (h|h);omega;exact h0 (Int.tmod_eq_zero_of_dvd h)),Int.sign_eq_one_of_pos hb]

theorem floor_pos (a b:Int) (hb:0 < b) (h1:-9223372036854775808≤a) (h2:a≤9223372036854775807):num_Floor.f a b = some (a / b):=by
 have l1:=div_lo hb h1;have l2:=div_hi hb h2
 unfold num_Floor.f
 rw [if_neg (by omega),if_neg (by omega)]
 by_cases h0:Int.tmod a b = 0
 ·rw [if_pos h0,tdiv_pos (.inr h0),w_in l1 l2]
 ·rw [if_neg h0]
  by_cases ha:a < 0
  ·rw [if_pos (by simp only [ha,decide_true,show ¬ b < 0 by omega,decide_false];rfl),tdiv_neg hb ha h0]
   have:a / b < 0:=Int.ediv_neg_of_neg_of_pos ha hb
   rw [w_in (n:=a / b + 1) (by omega) (by omega),Int.add_sub_cancel,w_in l1 l2]
  ·rw [if_neg (by simp only [ha,show ¬ b < 0 by omega,decide_false];decide),tdiv_pos (.inl (by omega)),w_in l1 l2]

/-- the quotient, rounded to the nearest, halves up -/
def dv (a b:Int):Int:=(2 * a + b) / (2 * b)

theorem dv_up {a b:Int} (hb:0 < b) (h:a - a / b * b≥b - (a - a / b * b)):dv a b = a / b + 1:=by
 have e:=Int.mul_ediv_add_emod a b
 have m1:=Int.emod_nonneg a (show b ≠ 0 by omega);have m2:=Int.emod_lt_of_pos a hb
 rw [Int.mul_comm] at e
 generalize a / b = q at *
 unfold dv
 have hp:0 < 2 * b:=by omega
 apply Int.le_antisymm
 ·have:(2 * a + b) / (2 * b) < q + 1 + 1:=by
   rw [Int.ediv_lt_iff_lt_mul hp,show (q + 1 + 1) * (2 * b) = 2 * (q * b) + 4 * b by grind];omega
  omega
 ·rw [Int.le_ediv_iff_mul_le hp,show (q + 1) * (2 * b) = 2 * (q * b) + 2 * b by grind];omega
theorem dv_down {a b:Int} (hb:0 < b) (h:¬ a - a / b * b≥b - (a - a / b * b)):dv a b = a / b:=by
 have e:=Int.mul_ediv_add_emod a b
 have m1:=Int.emod_nonneg a (show b ≠ 0 by omega);have m2:=Int.emod_lt_of_pos a hb
 rw [Int.mul_comm] at e
 generalize a / b = q at *
 unfold dv
 have hp:0 < 2 * b:=by omega
 apply Int.le_antisymm
 ·have:(2 * a + b) / (2 * b) < q + 1:=by
   rw [Int.ediv_lt_iff_lt_mul hp,show (q + 1) * (2 * b) = 2 * (q * b) + 2 * b by grind];omega
  omega
 ·rw [Int.le_ediv_iff_mul_le hp,show q * (2 * b) = 2 * (q * b) by grind];omega
/-- it is off by at most a half -/
theorem dv_near (a b:Int) (hb:0 < b):2 * (dv a b * b)≤2 * a + b∧2 * a - b < 2 * (dv a b * b):=by
 have e:=Int.mul_ediv_add_emod a b
 have m1:=Int.emod_nonneg a (show b ≠ 0 by omega);have m2:=Int.emod_lt_of_pos a hb
 rw [Int.mul_comm] at e
 by_cases h:a - a / b * b≥b - (a - a / b * b)
 ·rw [dv_up hb h,show (a / b + 1) * b = a / b * b + b by grind];omega
 ·rw [dv_down hb h];omega

theorem div_pos (k:Nat) (a b:Int) (hb:0 < b) (h1:-9223372036854775808 + b≤a) (h2:a≤9223372036854775807 - b):num_Div.f (k + 1) a b = some (dv a b):=by
 have l1:=div_lo hb (show -9223372036854775808≤a by omega);have l2:=div_hi hb (show a≤9223372036854775807 by omega)
 have e:=Int.mul_ediv_add_emod a b
 have m1:=Int.emod_nonneg a (show b ≠ 0 by omega);have m2:=Int.emod_lt_of_pos a hb
 have e':a / b * b = b * (a / b):=Int.mul_comm _ _
 have hb1:a / b + 1≤9223372036854775807:=by
  have:a / b < 9223372036854775807:=by
   rw [Int.ediv_lt_iff_lt_mul hb]
   have:9223372036854775807 * 1≤9223372036854775807 * b:=Int.mul_le_mul_of_nonneg_left (by omega) (by omega)
   omega
  omega
 unfold num_Div.f
 rw [floor_pos a b hb (by omega) (by omega)];simp only [Option.bind_some]
 rw [if_neg (by omega),show (b == -1) = false from beq_eq_false_iff_ne.mpr (by omega)]
 simp only [num_Div.j0]
 rw [if_neg (by decide),if_pos hb,w_in (n:=a / b * b) (by omega) (by omega),w_in (n:=a - a / b * b) (by omega) (by omega),w_in (n:=b - (a - a / b * b)) (by omega) (by omega)]
 by_cases h:a - a / b * b≥b - (a - a / b * b)
 ·rw [if_pos h,w_in (by omega) (by omega),dv_up hb h]
 ·rw [if_neg h,if_neg (by omega),dv_down hb h]

theorem clamp_some (x lo hi:Int):num_Clamp.f x lo hi = some (min hi (max x lo)):=by
 unfold num_Clamp.f mn mx;congr 1;split <;> split <;> omega

/-! the reference's -/
theorem rfloor_pos (k:Nat) (a b:Int) (hb:0 < b) (h1:-9223372036854775808≤a) (h2:a≤9223372036854775807):r01_Floor.f (k + 1) a b = some (a / b):=by
 have l1:=div_lo hb h1;have l2:=div_hi hb h2
 have e:r01_Floor.j0 (k + 1) a b false = some (a / b):=by
  simp only [r01_Floor.j0]
  rw [if_neg (by decide),if_neg (by omega)]
  by_cases h0:Int.tmod a b = 0
  ·rw [if_pos h0,tdiv_pos (.inr h0),w_in l1 l2]
  ·rw [if_neg h0]
   by_cases ha:a < 0
   ·have hm:Int.tmod a b < 0:=by
     have h3:=Int.tmod_nonneg b (show 0≤-a by omega)
     rw [Int.neg_tmod] at h3;omega
    rw [if_pos (by simp only [hm,decide_true,show ¬ b < 0 by omega,decide_false];rfl),tdiv_neg hb ha h0]
    have:a / b < 0:=Int.ediv_neg_of_neg_of_pos ha hb
    rw [w_in (n:=a / b + 1) (by omega) (by omega),Int.add_sub_cancel,w_in l1 l2]
   ·have hm:¬ Int.tmod a b < 0:=by have:=Int.tmod_nonneg b (show 0≤a by omega);omega
    rw [if_neg (by simp only [hm,show ¬ b < 0 by omega,decide_false];decide),tdiv_pos (.inl (by omega)),w_in l1 l2]
 unfold r01_Floor.f
 rw [if_neg (by omega),show (b == -1) = false from beq_eq_false_iff_ne.mpr (by omega),ite_self,e]
theorem rabs_some (a:Int) (h1:-9223372036854775808≤a) (h2:a≤9223372036854775807):r01_Abs.f a = some (max a (-a)):=by
 have hw:∀ n:Int,IntKind.u64.wrap n = n % 18446744073709551616:=fun _=>rfl
 unfold r01_Abs.f;simp only [hw]
 split <;> (congr 1;omega)
theorem rdiv_pos (k:Nat) (a b:Int) (hb:0 < b) (h1:-9223372036854775808 + b≤a) (h2:a≤9223372036854775807 - b):r01_Div.f (k + 1) a b = some (dv a b):=by
 have l1:=div_lo hb (show -9223372036854775808≤a by omega);have l2:=div_hi hb (show a≤9223372036854775807 by omega)
 have e:=Int.mul_ediv_add_emod a b
 have m1:=Int.emod_nonneg a (show b ≠ 0 by omega);have m2:=Int.emod_lt_of_pos a hb
 have e':a / b * b = b * (a / b):=Int.mul_comm _ _
 have hb1:a / b + 1≤9223372036854775807:=by
  have:a / b < 9223372036854775807:=by
   rw [Int.ediv_lt_iff_lt_mul hb]
   have:9223372036854775807 * 1≤9223372036854775807 * b:=Int.mul_le_mul_of_nonneg_left (by omega) (by omega)
   omega
  omega
 have e2:r01_Div.j0 (k + 1) a b (a / b) false = some (dv a b):=by
  simp only [r01_Div.j0]
  rw [if_neg (by decide),w_in (n:=b * (a / b)) (by omega) (by omega),w_in (n:=a - b * (a / b)) (by omega) (by omega),rabs_some _ (by omega) (by omega),rabs_some _ (by omega) (by omega)]
  simp only [Option.bind_some]
  rw [show max (a - b * (a / b)) (-(a - b * (a / b))) = a - a / b * b by omega,show max b (-b) = b by omega,u_in (n:=b - (a - a / b * b)) (by omega) (by omega)]
  by_cases h:a - a / b * b≥b - (a - a / b * b)
  ·rw [if_pos h,w_in (by omega) (by omega),dv_up hb h]
  ·rw [if_neg h,dv_down hb h]
 unfold r01_Div.f
 rw [if_neg (by omega),rfloor_pos k a b hb (by omega) (by omega)];simp only [Option.bind_some]
 rw [show (b == -1) = false from beq_eq_false_iff_ne.mpr (by omega),ite_self,e2]
theorem rclamp_some (x lo hi:Int):r01_Clamp.f x lo hi = some (min hi (max x lo)):=by
 unfold r01_Clamp.f mn mx;congr 1;split <;> split <;> omega
end Go.Proofs.Ytmlcobnidfkhfaa.Q
namespace Go.Proofs.Ytmlcobnidfkhfaa.Q
open Go.RowKit Go.Proofs.YtmlcobnidfkhfaaW.PrintWords Go.Proofs.YtmlcobnidfkhfaaW.PrintLast Go.Proofs.YtmlcobnidfkhfaaW.PrintMore
set_option linter.unusedVariables false
set_option linter.unusedSimpArgs false

theorem w_q (x:Int):∃ q,wrap64 x = x - 18446744073709551616 * q:=⟨(x + 9223372036854775808) / 18446744073709551616,by unfold wrap64;omega⟩
theorem w_of (x q:Int):wrap64 (x - 18446744073709551616 * q) = wrap64 x:=by unfold wrap64;omega
theorem w_addl (x y:Int):wrap64 (wrap64 x + y) = wrap64 (x + y):=by unfold wrap64;omega
theorem w_addr (x y:Int):wrap64 (x + wrap64 y) = wrap64 (x + y):=by unfold wrap64;omega
theorem w_subl (x y:Int):wrap64 (wrap64 x - y) = wrap64 (x - y):=by unfold wrap64;omega
theorem w_subr (x y:Int):wrap64 (x - wrap64 y) = wrap64 (x - y):=by unfold wrap64;omega
theorem w_neg (x:Int):wrap64 (-wrap64 x) = wrap64 (-x):=by unfold wrap64;omega
theorem w_w (x:Int):wrap64 (wrap64 x) = wrap64 x:=by unfold wrap64;omega
theorem w_mull (x y:Int):wrap64 (wrap64 x * y) = wrap64 (x * y):=by
 obtain ⟨q,hq⟩:=w_q x
 rw [hq,show (x - 18446744073709551616 * q) * y = x * y - 18446744073709551616 * (q * y) by grind,w_of]
theorem w_mulr (x y:Int):wrap64 (x * wrap64 y) = wrap64 (x * y):=by
 rw [Int.mul_comm,w_mull,Int.mul_comm]

/-- a product's bounds out of its factors' -/
theorem mul_bd {a b A B:Int} (ha:-A≤a∧a≤A) (hb:-B≤b∧b≤B):-(A * B)≤a * b∧a * b≤A * B:=by
 have h1:0≤(A - a) * (B - b):=Int.mul_nonneg (by omega) (by omega)
 have h2:0≤(A + a) * (B + b):=Int.mul_nonneg (by omega) (by omega)
 have h3:0≤(A - a) * (B + b):=Int.mul_nonneg (by omega) (by omega)
 have h4:0≤(A + a) * (B - b):=Int.mul_nonneg (by omega) (by omega)
 have e1:(A - a) * (B - b) = A * B - A * b - a * B + a * b:=by grind
 have e2:(A + a) * (B + b) = A * B + A * b + a * B + a * b:=by grind
 have e3:(A - a) * (B + b) = A * B + A * b - a * B - a * b:=by grind
 have e4:(A + a) * (B - b) = A * B - A * b + a * B - a * b:=by grind
 omega
end Go.Proofs.Ytmlcobnidfkhfaa.Q
namespace Go.Proofs.Ytmlcobnidfkhfaa.Q
open Go.RowKit Go.Proofs.YtmlcobnidfkhfaaW.PrintWords Go.Proofs.YtmlcobnidfkhfaaW.PrintLast Go.Proofs.YtmlcobnidfkhfaaW.PrintMore
set_option linter.unusedVariables false
set_option linter.unusedSimpArgs false

/-- the parameters from place i on are within bounds -/
def Rg (l:List Int) (i:Int):Prop:=∀ j:Int,i≤j→j < l.length→-1048576≤rd l j∧rd l j≤1048576
/-- the third parameter of a radial or a diamond gradient is negative -/
def Ng (kind:Int) (l:List Int):Prop:=(kind = 2 ∨ kind = 4)∧rd l 2 < 0
instance (kind:Int) (l:List Int):Decidable (Ng kind l):=by unfold Ng;infer_instance
theorem rg_cons {l:List Int} {i:Int} (h:-1048576≤rd l i∧rd l i≤1048576) (g:Rg l (i + 1)):Rg l i:=fun j a b=>by
 by_cases e:j = i
 ·subst e;exact h
 ·exact g j (by omega) b
theorem rg_tail {l:List Int} {i:Int} (g:Rg l i):Rg l (i + 1):=fun j a b=>g j (by omega) b
def endp (kind:Int) (l:List Int) (a b c:Int):Int × Int × Int:=if Ng kind l then (a,b,2) else (a,b,c)
theorem params_end (k:Nat) (kind:Int) (l m:List Int) (a b c n:Int) (hl:3≤(l.length:Int)):gr_params.l0 (k + 1) kind l a b c m n n = some (endp kind l a b c):=by
 simp only [gr_params.l0,endp]
 rw [if_neg (by omega)]
 by_cases h2:kind = 2
 ·rw [if_pos h2,if_pos (by omega)]
  by_cases h:rd l 2 < 0
  ·rw [if_pos h,if_pos (show Ng kind l from ⟨.inl h2,h⟩)]
  ·rw [if_neg h,if_neg (fun g:Ng kind l=>h g.2)]
 ·rw [if_neg h2]
  by_cases h4:kind = 4
  ·rw [if_pos h4,if_pos (by omega)]
   by_cases h:rd l 2 < 0
   ·rw [if_pos h,if_pos (show Ng kind l from ⟨.inr h4,h⟩)]
   ·rw [if_neg h,if_neg (fun g:Ng kind l=>h g.2)]
  ·rw [if_neg h4,if_neg (fun g:Ng kind l=>by have:=g.1;omega)]
theorem params_l (kind:Int) (l:List Int) (a b:Int) (hl:3≤(l.length:Int)) (hl2:l.length≤100) (d:Nat):∀ (k:Nat) (c i:Int),0≤i→i + d = l.length →
  (Rg l i∧gr_params.l0 (k + d + 1) kind l a b c l (l.length:Int) i = some (endp kind l a b c)) ∨ (¬ Rg l i∧gr_params.l0 (k + d + 1) kind l a b c l (l.length:Int) i = some (endp kind l a b 2)):=by
 induction d with
 | zero =>
  intro k c i h0 h1
  obtain rfl:i = l.length:=by omega
  exact .inl ⟨fun j a b=>by omega,params_end _ _ _ _ _ _ _ _ hl⟩
 | succ d ih =>
  intro k c i h0 h1
  rw [show k + (d + 1) + 1 = k + d + 1 + 1 by omega,gr_params.l0]
  rw [if_pos (by omega),if_pos h0,if_pos (by omega),w_in (n:=i + 1) (by omega) (by omega)]
  have bad:(-1048576≤rd l i∧rd l i≤1048576→False)→(Rg l i∧gr_params.l0 (k + d + 1) kind l a b 2 l (l.length:Int) (i + 1) = some (endp kind l a b c)) ∨ (¬ Rg l i∧gr_params.l0 (k + d + 1) kind l a b 2 l (l.length:Int) (i + 1) = some (endp kind l a b 2)):=by
   intro h
   refine .inr ⟨fun g=>h (g i (Int.le_refl _) (by omega)),?_⟩
   rcases ih k 2 (i + 1) (by omega) (by omega) with ⟨_,e⟩|⟨_,e⟩ <;> exact e
  by_cases c1:rd l i < -1048576
  ·rw [if_pos c1];exact bad fun h=>by omega
  rw [if_neg c1]
  by_cases c2:rd l i > 1048576
  ·rw [if_pos c2];exact bad fun h=>by omega
  rw [if_neg c2]
  rcases ih k c (i + 1) (by omega) (by omega) with ⟨g,e⟩|⟨g,e⟩
  ·exact .inl ⟨rg_cons ⟨by omega,by omega⟩ g,e⟩
  ·exact .inr ⟨fun h=>g (rg_tail h),e⟩

def Kok (kind spread:Int):Prop:=1≤kind∧kind≤4∧0≤spread∧spread≤2
def Lok (kind:Int) (l:List Int):Prop:=(kind = 1→(l.length:Int) = 4)∧(kind ≠ 1→(l.length:Int) = 3)
def Vok (kind:Int) (l:List Int):Prop:=Rg l 0∧¬ Ng kind l
theorem params_two (k:Nat) (kind:Int) (l:List Int) (a want:Int) (hw:(kind = 1→want = 4)∧(kind ≠ 1→want = 3)) :
  ∃ en ev,gr_params.j2 (k + 6) kind l a 0 0 want = some (a,en,ev)∧(¬ Lok kind l∧en = 1∧ev = 0 ∨ Lok kind l∧en = 0∧(Vok kind l∧ev = 0 ∨ ¬ Vok kind l∧ev = 2)):=by
 simp only [gr_params.j2]
 by_cases c:(l.length:Int) = want
 ·rw [if_pos c]
  have hL:Lok kind l:=⟨fun h=>by have:=hw.1 h;omega,fun h=>by have:=hw.2 h;omega⟩
  have hw':want = 3 ∨ want = 4:=by
   by_cases h:kind = 1
   ·exact .inr (hw.1 h)
   ·exact .inl (hw.2 h)
  obtain ⟨d,k',e,hd⟩:∃ (d k':Nat),k + 5 = k' + d + 1∧(0:Int) + d = l.length:=by
   rcases hw' with h|h
   ·exact ⟨3,k + 1,by omega,by omega⟩
   ·exact ⟨4,k,by omega,by omega⟩
  rw [e]
  rcases params_l kind l a 0 (by omega) (by omega) d k' 0 0 (Int.le_refl _) hd with ⟨g,h⟩|⟨g,h⟩
  ·rw [h];unfold endp
   by_cases n:Ng kind l
   ·rw [if_pos n];exact ⟨0,2,rfl,.inr ⟨hL,rfl,.inr ⟨fun v=>v.2 n,rfl⟩⟩⟩
   ·rw [if_neg n];exact ⟨0,0,rfl,.inr ⟨hL,rfl,.inl ⟨⟨g,n⟩,rfl⟩⟩⟩
  ·rw [h];unfold endp
   refine ⟨0,2,by split <;> rfl,.inr ⟨hL,rfl,.inr ⟨fun v=>g v.1,rfl⟩⟩⟩
 ·rw [if_neg c]
  refine ⟨1,0,rfl,.inl ⟨fun h=>?_,rfl,rfl⟩⟩
  by_cases k1:kind = 1
  ·exact c ((h.1 k1).trans (hw.1 k1).symm)
  ·exact c ((h.2 k1).trans (hw.2 k1).symm)
theorem params_some (k:Nat) (kind:Int) (l:List Int) (spread:Int) :
  ∃ ek en ev,gr_params.f (k + 8) kind l spread = some (ek,en,ev)∧(Kok kind spread∧ek = 0 ∨ ¬ Kok kind spread∧ek = 8)∧(¬ Lok kind l∧en = 1∧ev = 0 ∨ Lok kind l∧en = 0∧(Vok kind l∧ev = 0 ∨ ¬ Vok kind l∧ev = 2)):=by
 have main:∀ a want,(kind = 1→want = 4)∧(kind ≠ 1→want = 3)→∃ en ev,gr_params.j0 (k + 8) kind l spread a 0 0 want = some (if 0≤spread∧spread≤2 then a else 8,en,ev)∧(¬ Lok kind l∧en = 1∧ev = 0 ∨ Lok kind l∧en = 0∧(Vok kind l∧ev = 0 ∨ ¬ Vok kind l∧ev = 2)):=by
  intro a want hw
  simp only [gr_params.j0,gr_params.j1]
  by_cases c:spread < 0
  ·rw [if_pos c,if_pos trivial,if_neg (by omega)];exact params_two k kind l 8 want hw
  ·rw [if_neg c]
   by_cases c2:spread > 2
   ·rw [if_pos (decide_eq_true c2),if_neg (by omega)];exact params_two k kind l 8 want hw
   ·rw [if_neg (by simpa using c2),if_pos (by omega)];exact params_two k kind l a want hw
 unfold gr_params.f
 have fin:∀ a want,(kind = 1→want = 4)∧(kind ≠ 1→want = 3)→(1≤kind∧kind≤4∧a = 0 ∨ ¬ (1≤kind∧kind≤4)∧a = 8)→∃ ek en ev,gr_params.j0 (k + 8) kind l spread a 0 0 want = some (ek,en,ev)∧(Kok kind spread∧ek = 0 ∨ ¬ Kok kind spread∧ek = 8)∧(¬ Lok kind l∧en = 1∧ev = 0 ∨ Lok kind l∧en = 0∧(Vok kind l∧ev = 0 ∨ ¬ Vok kind l∧ev = 2)):=by
  intro a want hw ha
  obtain ⟨en,ev,h1,h2⟩:=main a want hw
  refine ⟨_,en,ev,h1,?_,h2⟩
  by_cases c:0≤spread∧spread≤2
  ·rw [if_pos c]
   rcases ha with ⟨x,y,z⟩|⟨x,z⟩
   ·exact .inl ⟨⟨x,y,c⟩,z⟩
   ·exact .inr ⟨fun h=>x ⟨h.1,h.2.1⟩,z⟩
  ·rw [if_neg c];exact .inr ⟨fun h=>c h.2.2,rfl⟩
 by_cases k1:kind = 1
 ·rw [if_pos k1];exact fin 0 4 (by omega) (by omega)
 rw [if_neg k1]
 by_cases k2:kind = 2
 ·rw [if_pos k2];exact fin 0 3 (by omega) (by omega)
 rw [if_neg k2]
 by_cases k3:kind = 3
 ·rw [if_pos k3];exact fin 0 3 (by omega) (by omega)
 rw [if_neg k3]
 by_cases k4:kind = 4
 ·rw [if_pos k4];exact fin 0 3 (by omega) (by omega)
 rw [if_neg k4];exact fin 8 3 (by omega) (by omega)

/-! the reference's -/
theorem head_some (k:Nat) (kind:Int) (l:List Int) (spread:Int):(Kok kind spread∧Lok kind l∧r18_head.f (k + 1) kind l spread = some 0) ∨ (Kok kind spread∧¬ Lok kind l∧r18_head.f (k + 1) kind l spread = some 1) ∨ (¬ Kok kind spread∧r18_head.f (k + 1) kind l spread = some 8):=by
 unfold r18_head.f Kok Lok
 simp only [r18_head.j0]
 by_cases c1:kind < 1
 ·rw [if_pos c1,if_pos trivial];exact .inr (.inr ⟨by omega,rfl⟩)
 rw [if_neg c1]
 by_cases c2:kind > 4
 ·rw [if_pos c2,if_pos trivial];exact .inr (.inr ⟨by omega,rfl⟩)
 rw [if_neg c2]
 by_cases c3:spread < 0
 ·rw [if_pos c3,if_pos trivial];exact .inr (.inr ⟨by omega,rfl⟩)
 rw [if_neg c3]
 by_cases c4:spread > 2
 ·rw [if_pos (decide_eq_true c4)];exact .inr (.inr ⟨by omega,rfl⟩)
 rw [if_neg (by simpa using c4)]
 by_cases k1:kind = 1
 ·rw [if_pos k1]
  by_cases h:(l.length:Int) = 4
  ·rw [if_pos h];exact .inl ⟨by omega,by omega,rfl⟩
  ·rw [if_neg h];exact .inr (.inl ⟨by omega,by omega,rfl⟩)
 ·rw [if_neg k1]
  by_cases h:(l.length:Int) = 3
  ·rw [if_pos h];exact .inl ⟨by omega,by omega,rfl⟩
  ·rw [if_neg h];exact .inr (.inl ⟨by omega,by omega,rfl⟩)
theorem numbers_l (kind:Int) (l:List Int) (hl:3≤(l.length:Int)) (hl2:l.length≤100) (d:Nat):∀ (k:Nat) (i:Int),0≤i→i + d = l.length →
  (Rg l i∧¬ Ng kind l∧r18_numbers.l0 (k + d + 1) kind l (l.length:Int) i = some 0) ∨ (¬ (Rg l i∧¬ Ng kind l)∧r18_numbers.l0 (k + d + 1) kind l (l.length:Int) i = some 2):=by
 induction d with
 | zero =>
  intro k i h0 h1
  obtain rfl:i = l.length:=by omega
  simp only [r18_numbers.l0]
  rw [if_neg (by omega)]
  have R:Rg l (l.length:Int):=fun j a b=>by omega
  by_cases h2:kind = 2
  ·rw [if_pos h2,if_pos (by omega)]
   by_cases h:rd l 2 < 0
   ·rw [if_pos h];exact .inr ⟨fun g=>g.2 ⟨.inl h2,h⟩,rfl⟩
   ·rw [if_neg h];exact .inl ⟨R,fun g=>h g.2,rfl⟩
  ·rw [if_neg h2]
   by_cases h4:kind = 4
   ·rw [if_pos h4,if_pos (by omega)]
    by_cases h:rd l 2 < 0
    ·rw [if_pos h];exact .inr ⟨fun g=>g.2 ⟨.inr h4,h⟩,rfl⟩
    ·rw [if_neg h];exact .inl ⟨R,fun g=>h g.2,rfl⟩
   ·rw [if_neg h4];exact .inl ⟨R,fun g=>by have:=g.1;omega,rfl⟩
 | succ d ih =>
  intro k i h0 h1
  rw [show k + (d + 1) + 1 = k + d + 1 + 1 by omega,r18_numbers.l0]
  rw [if_pos (by omega),if_pos h0,if_pos (by omega),w_in (n:=i + 1) (by omega) (by omega)]
  by_cases c1:rd l i < -1048576
  ·rw [if_pos c1];exact .inr ⟨fun g=>by have:=g.1 i (Int.le_refl _) (by omega);omega,rfl⟩
  rw [if_neg c1]
  by_cases c2:rd l i > 1048576
  ·rw [if_pos c2];exact .inr ⟨fun g=>by have:=g.1 i (Int.le_refl _) (by omega);omega,rfl⟩
  rw [if_neg c2]
  rcases ih k (i + 1) (by omega) (by omega) with ⟨g,n,e⟩|⟨g,e⟩
  ·exact .inl ⟨rg_cons ⟨by omega,by omega⟩ g,n,e⟩
  ·exact .inr ⟨fun h=>g ⟨rg_tail h.1,h.2⟩,e⟩
theorem numbers_some (k:Nat) (kind:Int) (l:List Int) (hL:Lok kind l):(Vok kind l∧r18_numbers.f (k + 5) kind l = some 0) ∨ (¬ Vok kind l∧r18_numbers.f (k + 5) kind l = some 2):=by
 have hw':(l.length:Int) = 3 ∨ (l.length:Int) = 4:=by
  by_cases h:kind = 1
  ·exact .inr (hL.1 h)
  ·exact .inl (hL.2 h)
 obtain ⟨d,k',e,hd⟩:∃ (d k':Nat),k + 5 = k' + d + 1∧(0:Int) + d = l.length:=by
  rcases hw' with h|h
  ·exact ⟨3,k + 1,by omega,by omega⟩
  ·exact ⟨4,k,by omega,by omega⟩
 unfold r18_numbers.f Vok
 rw [e]
 rcases numbers_l kind l (by omega) (by omega) d k' 0 (Int.le_refl _) hd with ⟨g,n,h⟩|⟨g,h⟩
 ·exact .inl ⟨⟨g,n⟩,h⟩
 ·exact .inr ⟨g,h⟩
end Go.Proofs.Ytmlcobnidfkhfaa.Q
namespace Go.Proofs.Ytmlcobnidfkhfaa.Q
open Go.RowKit Go.Proofs.YtmlcobnidfkhfaaW.PrintWords Go.Proofs.YtmlcobnidfkhfaaW.PrintLast Go.Proofs.YtmlcobnidfkhfaaW.PrintMore
set_option linter.unusedVariables false
set_option linter.unusedSimpArgs false

/-- more rounds tell the same -/
theorem lift {α:Type} {f:Nat→Option α} (m:∀ k,LeO (f k) (f (k + 1))) {K:Nat} {v:α} (h:f K = some v) (k:Nat):f (k + K) = some v:=by
 induction k with
 | zero=>rw [Nat.zero_add];exact h
 | succ k ih=>rw [show k + 1 + K = k + K + 1 by omega];exact m _ _ ih
def Un (n:Int):Prop:=0≤n∧n≤65535
instance (n:Int):Decidable (Un n):=by unfold Un;infer_instance
/-- a valid pixel -/
def Pv (p:S38):Prop:=Un p.f0∧Un p.f1∧Un p.f2∧Un p.f3
instance (p:S38):Decidable (Pv p):=by unfold Pv;infer_instance
theorem unit_some (n:Int):pixel_unit.f n = some (min 65535 (max n 0)):=by unfold pixel_unit.f;rw [clamp_some];rfl
theorem U_some (n:Int):r06_U.f n = some (min 65535 (max n 0)):=by unfold r06_U.f;rw [rclamp_some];rfl
theorem un_id {n:Int} (h:Un n):min 65535 (max n 0) = n:=by unfold Un at h;omega
theorem limit_some (a b c d:Int):pixel_Limit.f a b c d = some (min 65535 (max a 0),min 65535 (max b 0),min 65535 (max c 0),min 65535 (max d 0)):=by
 unfold pixel_Limit.f;rw [unit_some,unit_some,unit_some,unit_some];rfl
theorem Limit_some (a b c d:Int):r06_Limit.f a b c d = some (min 65535 (max a 0),min 65535 (max b 0),min 65535 (max c 0),min 65535 (max d 0)):=by
 unfold r06_Limit.f;rw [U_some,U_some,U_some,U_some];rfl
theorem lim_eq (n:Int):(n == min 65535 (max n 0)) = decide (Un n):=by
 by_cases h:Un n
 ·rw [un_id h,decide_eq_true h];exact beq_self_eq_true n
 ·rw [decide_eq_false h];refine beq_eq_false_iff_ne.mpr fun e=>h ?_;unfold Un;omega
theorem lim_eq' (n:Int):(min 65535 (max n 0) == n) = decide (Un n):=by
 by_cases h:Un n
 ·rw [un_id h,decide_eq_true h];exact beq_self_eq_true n
 ·rw [decide_eq_false h];refine beq_eq_false_iff_ne.mpr fun e=>h ?_;unfold Un;omega
theorem pv_dec (p:S38):(decide (Un p.f0)&&(decide (Un p.f1)&&(decide (Un p.f2)&&decide (Un p.f3)))) = decide (Pv p):=by
 unfold Pv
 by_cases h0:Un p.f0 <;> by_cases h1:Un p.f1 <;> by_cases h2:Un p.f2 <;> by_cases h3:Un p.f3 <;> simp [h0,h1,h2,h3]
theorem valid_some (p:S38):pixel_Valid.f p.f0 p.f1 p.f2 p.f3 = some (decide (Pv p)):=by
 unfold pixel_Valid.f;rw [limit_some];simp only [Option.bind_some]
 rw [lim_eq,lim_eq,lim_eq,lim_eq,pv_dec]
theorem Valid_some (p:S38):r06_Valid.f p.f0 p.f1 p.f2 p.f3 = some (decide (Pv p)):=by
 unfold r06_Valid.f;rw [Limit_some];simp only [Option.bind_some]
 rw [lim_eq',lim_eq',lim_eq',lim_eq',pv_dec]

/-- the stops from place i on are in order -/
def Stk (l:List S47) (i:Int):Prop:=∀ j:Int,i≤j→j < l.length→Un (rd_T47 l j).f0∧Pv (rd_T47 l j).f1∧(0 < j→(rd_T47 l (j - 1)).f0 < (rd_T47 l j).f0)
theorem stk_cons {l:List S47} {i:Int} (h:Un (rd_T47 l i).f0∧Pv (rd_T47 l i).f1∧(0 < i→(rd_T47 l (i - 1)).f0 < (rd_T47 l i).f0)) (g:Stk l (i + 1)):Stk l i:=fun j a b=>by
 by_cases e:j = i
 ·subst e;exact h
 ·exact g j (by omega) b
theorem stk_tail {l:List S47} {i:Int} (g:Stk l i):Stk l (i + 1):=fun j a b=>g j (by omega) b
theorem list_l (l:List S47) (hl:l.length≤100) (d:Nat):∀ (k:Nat) (i:Int),0≤i→i + d = l.length →
  ∃ e,gr_list.l0 (k + 2 * d + 1) l l (l.length:Int) i = some e∧r18_Stops.l0 (k + 2 * d + 1) l (l.length:Int) i = some e∧(e = 0∧Stk l i ∨ e ≠ 0∧¬ Stk l i):=by
 induction d with
 | zero =>
  intro k i h0 h1
  obtain rfl:i = l.length:=by omega
  simp only [gr_list.l0,r18_Stops.l0]
  rw [if_neg (by omega),if_neg (by omega)]
  exact ⟨0,rfl,rfl,.inl ⟨rfl,fun j a b=>by omega⟩⟩
 | succ d ih =>
  intro k i h0 h1
  rw [show k + 2 * (d + 1) + 1 = k + 2 * d + 1 + 1 + 1 by omega,gr_list.l0,r18_Stops.l0]
  have p1:i < (l.length:Int):=by omega
  simp only [if_pos p1,if_pos h0,valid_some,Valid_some,Option.bind_some]
  simp only [gr_list.j1,r18_Stops.j1,if_pos trivial]
  rw [w_in (n:=i + 1) (by omega) (by omega),w_in (n:=i - 1) (by omega) (by omega)]
  by_cases c1:(rd_T47 l i).f0 < 0
  ·simp only [if_pos c1];exact ⟨2,rfl,rfl,.inr ⟨by omega,fun g=>by have:=(g i (Int.le_refl _) (by omega)).1;unfold Un at this;omega⟩⟩
  simp only [if_neg c1]
  by_cases c2:(rd_T47 l i).f0 > 65535
  ·simp only [if_pos c2];exact ⟨2,rfl,rfl,.inr ⟨by omega,fun g=>by have:=(g i (Int.le_refl _) (by omega)).1;unfold Un at this;omega⟩⟩
  simp only [if_neg c2]
  have un:Un (rd_T47 l i).f0:=⟨by omega,by omega⟩
  by_cases c3:Pv (rd_T47 l i).f1
  ·have nb:¬ ((!true) = true):=by decide
   simp only [decide_eq_true c3,if_neg nb]
   by_cases c4:i > 0
   ·have q1:0≤i - 1:=by omega
    have q2:i - 1 < (l.length:Int):=by omega
    simp only [if_pos c4,if_pos p1,if_pos h0,if_pos q1,if_pos q2]
    by_cases c5:(rd_T47 l i).f0≤(rd_T47 l (i - 1)).f0
    ·simp only [if_pos c5];exact ⟨24,rfl,rfl,.inr ⟨by omega,fun g=>by have:=(g i (Int.le_refl _) (by omega)).2.2 c4;omega⟩⟩
    ·simp only [if_neg c5]
     obtain ⟨e,e1,e2,e3⟩:=ih k (i + 1) (by omega) (by omega)
     refine ⟨e,e1,e2,?_⟩
     rcases e3 with ⟨z,g⟩|⟨z,g⟩
     ·exact .inl ⟨z,stk_cons ⟨un,c3,fun _=>by omega⟩ g⟩
     ·exact .inr ⟨z,fun h=>g (stk_tail h)⟩
   ·simp only [if_neg c4]
    obtain ⟨e,e1,e2,e3⟩:=ih k (i + 1) (by omega) (by omega)
    refine ⟨e,e1,e2,?_⟩
    rcases e3 with ⟨z,g⟩|⟨z,g⟩
    ·exact .inl ⟨z,stk_cons ⟨un,c3,fun h=>absurd h c4⟩ g⟩
    ·exact .inr ⟨z,fun h=>g (stk_tail h)⟩
  ·have nb:(!false) = true:=by decide
   simp only [decide_eq_false c3,if_pos nb];exact ⟨2,rfl,rfl,.inr ⟨by omega,fun g=>c3 (g i (Int.le_refl _) (by omega)).2.1⟩⟩
/-- the program's list of stops -/
theorem list_some (l:List S47) (hl:l.length≤16):∃ e,(∀ k,gr_list.f (k + 40) l = some e)∧(∀ k,r18_Stops.l0 (k + 40) l (l.length:Int) 0 = some e)∧(e = 0∧Stk l 0 ∨ e ≠ 0∧¬ Stk l 0):=by
 obtain ⟨e,e1,e2,e3⟩:=list_l l (by omega) l.length (39 - 2 * l.length) 0 (by omega) (by omega)
 rw [show 39 - 2 * l.length + 2 * l.length + 1 = 40 by omega] at e1 e2
 refine ⟨e,fun k=>?_,fun k=>?_,e3⟩
 ·exact lift (f:=fun k=>gr_list.f k l) (fun k=>gr_list.mono _ _) e1 k
 ·exact lift (f:=fun k=>r18_Stops.l0 k l (l.length:Int) 0) (fun k=>(r18_Stops.mono_l k).1 _ _ _) e2 k
def Sok (l:List S47):Prop:=0 < l.length∧l.length≤16∧Stk l 0
/-- the reference's check of stops alone -/
theorem Stops_some (l:List S47):∃ e,(∀ k,r18_Stops.f (k + 40) l = some e)∧(e = 0∧Sok l ∨ e ≠ 0∧¬ Sok l):=by
 by_cases c1:(l.length:Int) = 0
 ·refine ⟨1,fun k=>?_,.inr ⟨by omega,fun h=>by have:=h.1;omega⟩⟩
  unfold r18_Stops.f;rw [if_pos c1]
 by_cases c2:(l.length:Int) > 16
 ·refine ⟨3,fun k=>?_,.inr ⟨by omega,fun h=>by have:=h.2.1;omega⟩⟩
  unfold r18_Stops.f;rw [if_neg c1,if_pos c2]
 obtain ⟨e,_,e2,e3⟩:=list_some l (by omega)
 refine ⟨e,fun k=>?_,?_⟩
 ·unfold r18_Stops.f;rw [if_neg c1,if_neg c2,e2]
 ·rcases e3 with ⟨z,g⟩|⟨z,g⟩
  ·exact .inl ⟨z,by omega,by omega,g⟩
  ·exact .inr ⟨z,fun h=>g h.2.2⟩
/-- Check, the program's and the reference's -/
theorem Check_some (kind:Int) (l:List Int) (spread:Int) (s:List S47):∃ e,(∀ k,gr_Check.f (k + 50) kind l spread s = some e)∧(∀ k,r18_Check.f (k + 50) kind l spread s = some e)∧(e = 0→Kok kind spread∧Lok kind l∧Vok kind l∧Sok s):=by
 suffices h:∃ e,gr_Check.f 50 kind l spread s = some e∧r18_Check.f 50 kind l spread s = some e∧(e = 0→Kok kind spread∧Lok kind l∧Vok kind l∧Sok s) by
  obtain ⟨e,h1,h2,h3⟩:=h
  exact ⟨e,fun k=>lift (f:=fun k=>gr_Check.f k kind l spread s) (fun k=>gr_Check.mono _ _ _ _ _) h1 k,fun k=>lift (f:=fun k=>r18_Check.f k kind l spread s) (fun k=>r18_Check.mono _ _ _ _ _) h2 k,h3⟩
 obtain ⟨ek,en,ev,h,h1,h2⟩:=params_some 42 kind l spread
 unfold gr_Check.f r18_Check.f
 rw [show (50:Nat) = 42 + 8 from rfl,h];simp only [Option.bind_some]
 rcases head_some 49 kind l spread with ⟨hK,hL,e⟩|⟨hK,hL,e⟩|⟨hK,e⟩
 ·rw [show 42 + 8 = 49 + 1 from rfl,e];simp only [Option.bind_some]
  have a1:ek = 0:=by rcases h1 with ⟨_,a⟩|⟨a,_⟩;exact a;exact absurd hK a
  have a2:en = 0:=by rcases h2 with ⟨a,_⟩|⟨_,a,_⟩;exact absurd hL a;exact a
  rw [if_pos a1,if_pos a2,if_pos trivial,gr_Check.j0]
  by_cases c1:(s.length:Int) = 0
  ·rw [if_pos (beq_iff_eq.mpr c1),if_pos c1];exact ⟨1,rfl,rfl,fun h=>by omega⟩
  rw [if_neg (by simpa using c1),if_neg c1]
  by_cases c2:(s.length:Int) > 16
  ·rw [if_pos c2,if_pos c2];exact ⟨3,rfl,rfl,fun h=>by omega⟩
  rw [if_neg c2,if_neg c2,show (49:Nat) + 1 = 45 + 5 from rfl]
  rcases numbers_some 45 kind l hL with ⟨hV,f⟩|⟨hV,f⟩
  ·have a3:ev = 0:=by rcases h2 with ⟨a,_⟩|⟨_,_,⟨_,a⟩|⟨a,_⟩⟩;exact absurd hL a;exact a;exact absurd hV a
   rw [f];simp only [Option.bind_some]
   obtain ⟨e,e1,e2,e3⟩:=list_some s (by omega)
   rw [if_pos a3,if_pos trivial,show (49:Nat) = 9 + 40 from rfl,e1]
   unfold r18_Stops.f
   rw [if_neg c1,if_neg c2,show 45 + 5 = 10 + 40 from rfl,e2]
   refine ⟨e,rfl,rfl,fun z=>⟨hK,hL,hV,by omega,by omega,?_⟩⟩
   rcases e3 with ⟨_,g⟩|⟨g,_⟩
   ·exact g
   ·exact absurd z g
  ·have a3:ev = 2:=by rcases h2 with ⟨a,_⟩|⟨_,_,⟨a,_⟩|⟨_,a⟩⟩;exact absurd hL a;exact absurd a hV;exact a
   rw [f];simp only [Option.bind_some]
   rw [if_neg (by omega),if_neg (by decide),a3];exact ⟨2,rfl,rfl,fun h=>by omega⟩
 ·have a2:en = 1:=by rcases h2 with ⟨_,a,_⟩|⟨a,_⟩;exact a;exact absurd a hL
  have a1:ek = 0:=by rcases h1 with ⟨_,a⟩|⟨a,_⟩;exact a;exact absurd hK a
  rw [show 42 + 8 = 49 + 1 from rfl,e];simp only [Option.bind_some]
  rw [if_pos a1,if_neg (by omega),gr_Check.j0,if_pos rfl,if_neg (by decide)];exact ⟨1,rfl,rfl,fun h=>by omega⟩
 ·have a1:ek = 8:=by rcases h1 with ⟨a,_⟩|⟨_,a⟩;exact absurd a hK;exact a
  rw [show 42 + 8 = 49 + 1 from rfl,e];simp only [Option.bind_some]
  rw [if_neg (by omega),if_neg (by decide),a1];exact ⟨8,rfl,rfl,fun h=>by omega⟩
end Go.Proofs.Ytmlcobnidfkhfaa.Q
namespace Go.Proofs.Ytmlcobnidfkhfaa.Q
open Go.RowKit Go.Proofs.YtmlcobnidfkhfaaW.PrintWords Go.Proofs.YtmlcobnidfkhfaaW.PrintLast Go.Proofs.YtmlcobnidfkhfaaW.PrintMore
set_option linter.unusedVariables false
set_option linter.unusedSimpArgs false

/-- four numbers of a pixel -/
def T4 (c:S38):Int × Int × Int × Int:=(c.f0,c.f1,c.f2,c.f3)
def fin (p:S38):S38:=if p.f3 = 0 then ⟨0,0,0,0⟩ else p
theorem fin_some (p:S38):(if p.f3 = 0 then some (0,0,0,0) else some (p.f0,p.f1,p.f2,p.f3)) = some (T4 (fin p)):=by
 unfold fin;by_cases h:p.f3 = 0
 ·rw [if_pos h,if_pos h];rfl
 ·rw [if_neg h,if_neg h];rfl
theorem fin_a (p:S38):(fin p).f3 = p.f3:=by
 unfold fin;by_cases h:p.f3 = 0
 ·rw [if_pos h,h]
 ·rw [if_neg h]
/-- the pixel between two -/
def mixp (a b:S38) (s:Int):S38 :=
 if dv (a.f3 * (65535 - s) + b.f3 * s) 65535 = 0 then ⟨0,0,0,0⟩
 else ⟨dv (a.f0 * (a.f3 * (65535 - s)) + b.f0 * (b.f3 * s)) (a.f3 * (65535 - s) + b.f3 * s),dv (a.f1 * (a.f3 * (65535 - s)) + b.f1 * (b.f3 * s)) (a.f3 * (65535 - s) + b.f3 * s),dv (a.f2 * (a.f3 * (65535 - s)) + b.f2 * (b.f3 * s)) (a.f3 * (65535 - s) + b.f3 * s),dv (a.f3 * (65535 - s) + b.f3 * s) 65535⟩
theorem mixp_a (a b:S38) (s:Int):(mixp a b s).f3 = dv (a.f3 * (65535 - s) + b.f3 * s) 65535:=by
 unfold mixp;by_cases h:dv (a.f3 * (65535 - s) + b.f3 * s) 65535 = 0
 ·rw [if_pos h,h]
 ·rw [if_neg h]
theorem pr_bd {x y:Int} (A B:Int) (hx:0≤x∧x≤A) (hy:0≤y∧y≤B):0≤x * y∧x * y≤A * B :=
 ⟨Int.mul_nonneg hx.1 hy.1,Int.mul_le_mul hx.2 hy.2 hy.1 (by omega)⟩
theorem mix_some (k:Nat) {a b:S38} {s:Int} (ha:Pv a) (hb:Pv b) (hs:Un s) :
  pixel_Mix.f (k + 3) a.f0 a.f1 a.f2 a.f3 b.f0 b.f1 b.f2 b.f3 s = some (T4 (mixp a b s))∧r06_Mix.f (k + 3) a.f0 a.f1 a.f2 a.f3 b.f0 b.f1 b.f2 b.f3 s = some (T4 (mixp a b s)):=by
 obtain ⟨a0,a1,a2,a3⟩:=ha
 obtain ⟨b0,b1,b2,b3⟩:=hb
 have P:=pr_bd 65535 65535 (x:=a.f3) (y:=65535 - s) a3 (by unfold Un at hs;omega)
 have Q:=pr_bd 65535 65535 (x:=b.f3) (y:=s) b3 hs
 unfold pixel_Mix.f r06_Mix.f mixp
 rw [limit_some,limit_some,Limit_some,Limit_some,unit_some,U_some];simp only [Option.bind_some]
 rw [un_id a0,un_id a1,un_id a2,un_id a3,un_id b0,un_id b1,un_id b2,un_id b3,un_id hs]
 rw [w_in (n:=65535 - s) (by unfold Un at hs;omega) (by unfold Un at hs;omega)]
 generalize a.f3 * (65535 - s) = p at *
 generalize b.f3 * s = q at *
 rw [w_in (n:=p) (by omega) (by omega),w_in (n:=q) (by omega) (by omega),w_in (n:=p + q) (by omega) (by omega),div_pos _ _ _ (by omega) (by omega) (by omega),rdiv_pos _ _ _ (by omega) (by omega) (by omega)]
 simp only [Option.bind_some]
 by_cases z:dv (p + q) 65535 = 0
 ·simp only [if_pos z];exact ⟨rfl,rfl⟩
 ·simp only [if_neg z]
  have pq:0 < p + q:=by
   refine Int.not_le.mp fun c=>z ?_
   unfold dv;omega
  have one:∀ (k:Nat) (x y:Int),Un x→Un y→pixel_Mix_1.f (k + 1) x y p q (p + q) = some (dv (x * p + y * q) (p + q))∧r01_Div.f (k + 1) (wrap64 (wrap64 (x * p) + wrap64 (y * q))) (p + q) = some (dv (x * p + y * q) (p + q)):=by
   intro k x y hx hy
   have X:=pr_bd 65535 (65535 * 65535) (x:=x) (y:=p) hx P
   have Y:=pr_bd 65535 (65535 * 65535) (x:=y) (y:=q) hy Q
   unfold pixel_Mix_1.f
   generalize x * p = u at *
   generalize y * q = v at *
   rw [w_in (n:=u) (by omega) (by omega),w_in (n:=v) (by omega) (by omega),w_in (n:=u + v) (by omega) (by omega),div_pos _ _ _ (by omega) (by omega) (by omega),rdiv_pos _ _ _ (by omega) (by omega) (by omega)]
   exact ⟨rfl,rfl⟩
  rw [pixel_Mix.j0,(one (k + 1) _ _ a0 b0).1,(one (k + 1) _ _ a1 b1).1,(one (k + 1) _ _ a2 b2).1,(one (k + 2) _ _ a0 b0).2,(one (k + 2) _ _ a1 b1).2,(one (k + 2) _ _ a2 b2).2]
  exact ⟨rfl,rfl⟩
theorem mix_between {a b:S38} {s lo hi:Int} (hs:Un s) (ha:lo≤a.f3∧a.f3≤hi) (hb:lo≤b.f3∧b.f3≤hi):lo≤(mixp a b s).f3∧(mixp a b s).f3≤hi:=by
 unfold Un at hs
 have m1:=Int.mul_le_mul_of_nonneg_right ha.1 (show 0≤65535 - s by omega)
 have m2:=Int.mul_le_mul_of_nonneg_right hb.1 (show 0≤s by omega)
 have m3:=Int.mul_le_mul_of_nonneg_right ha.2 (show 0≤65535 - s by omega)
 have m4:=Int.mul_le_mul_of_nonneg_right hb.2 (show 0≤s by omega)
 have e1:lo * (65535 - s) + lo * s = 65535 * lo:=by grind
 have e2:hi * (65535 - s) + hi * s = 65535 * hi:=by grind
 rw [mixp_a];unfold dv
 omega

theorem dv_un {a b:Int} (hb:0 < b) (h:0≤a∧a≤65535 * b):Un (dv a b):=by
 unfold dv Un
 constructor
 ·exact Int.ediv_nonneg (by omega) (by omega)
 ·have:(2 * a + b) / (2 * b) < 65536:=by rw [Int.ediv_lt_iff_lt_mul (by omega)];omega
  omega
theorem stk_lt {l:List S47} (h:Stk l 0) (d:Nat):∀ i:Int,0≤i→i + d + 1 < l.length→(rd_T47 l i).f0 < (rd_T47 l (i + d + 1)).f0:=by
 induction d with
 | zero =>
  intro i h0 h1
  have:=(h (i + 1) (by omega) (by omega)).2.2 (by omega)
  rw [show i + 1 - 1 = i by omega] at this
  rw [show i + (0:Nat) + 1 = i + 1 by omega];exact this
 | succ d ih =>
  intro i h0 h1
  have a:=ih i h0 (by omega)
  have:=(h (i + d + 1 + 1) (by omega) (by omega)).2.2 (by omega)
  rw [show i + d + 1 + 1 - 1 = i + d + 1 by omega] at this
  rw [show i + (d + 1:Nat) + 1 = i + d + 1 + 1 by omega];omega
theorem stk_inj {l:List S47} (h:Stk l 0) {i j:Int} (h0:0≤i) (h1:i < j) (h2:j < l.length):(rd_T47 l i).f0 < (rd_T47 l j).f0:=by
 have:=stk_lt h (j - i - 1).toNat i h0 (by omega)
 rw [show i + ((j - i - 1).toNat:Int) + 1 = j by omega] at this;exact this

/-- behind the place the reference's loop changes nothing -/
theorem stay (l:List S47) (t:Int) (hS:Stk l 0) (hl:l.length≤100) (d:Nat):∀ (k:Nat) (i:Int) (p:S38),0 < i→i + d = l.length→t≤(rd_T47 l (i - 1)).f0 →
  r18_Color.l0 (k + 3 * d + 1) l t (l.length:Int) i p.f0 p.f1 p.f2 p.f3 = some (T4 (fin p)):=by
 induction d with
 | zero =>
  intro k i p h0 h1 ht
  rw [r18_Color.l0,if_neg (by omega),fin_some]
 | succ d ih =>
  intro k i p h0 h1 ht
  have lt:=(hS i (by omega) (by omega)).2.2 h0
  rw [show k + 3 * (d + 1) + 1 = k + 3 * d + 1 + 1 + 1 + 1 by omega,r18_Color.l0,if_pos (by omega),if_pos (by omega),if_pos (by omega),if_neg (by omega)]
  rw [r18_Color.j1,if_pos h0,w_in (n:=i - 1) (by omega) (by omega),if_pos (by omega),if_pos (by omega),if_neg (by omega)]
  rw [r18_Color.j2,if_neg (by decide),w_in (n:=i + 1) (by omega) (by omega)]
  exact ih k (i + 1) p (by omega) (by omega) (by rw [show i + 1 - 1 = i by omega];omega)
/-- what a color is to its stops -/
def Col (l:List S47) (t:Int) (c:S38):Prop:=(∀ j:Int,0≤j→j < l.length→(rd_T47 l j).f0 = t→c = fin (rd_T47 l j).f1)∧(∀ lo hi:Int,(∀ j:Int,0≤j→j < l.length→lo≤(rd_T47 l j).f1.f3∧(rd_T47 l j).f1.f3≤hi)→lo≤c.f3∧c.f3≤hi)
theorem color_l (l:List S47) (t:Int) (ht:Un t) (hS:Stk l 0) (hl:l.length≤100) (hn:0 < l.length) (d:Nat):∀ (k:Nat) (i:Int),0≤i→i + d = l.length→(∀ j:Int,0≤j→j < i→(rd_T47 l j).f0 < t) →
  ∃ c,Col l t c∧gr_color.l0 (k + d + 6) l t l (l.length:Int) i (rd_T47 l (l.length - 1)).f1.f0 (rd_T47 l (l.length - 1)).f1.f1 (rd_T47 l (l.length - 1)).f1.f2 (rd_T47 l (l.length - 1)).f1.f3 = some (T4 c) ∧
   (∀ p:S38,(i = 0→p = (rd_T47 l 0).f1)→(0 < i→p = (rd_T47 l (i - 1)).f1)→r18_Color.l0 (k + 3 * d + 6) l t (l.length:Int) i p.f0 p.f1 p.f2 p.f3 = some (T4 c)):=by
 induction d with
 | zero =>
  intro k i h0 h1 hlt
  obtain rfl:i = l.length:=by omega
  refine ⟨fin (rd_T47 l (l.length - 1)).f1,⟨fun j j0 j1 e=>?_,fun lo hi hb=>?_⟩,?_,fun p _ hp=>?_⟩
  ·have:=hlt j j0 j1;omega
  ·rw [fin_a];exact hb _ (by omega) (by omega)
  ·rw [gr_color.l0,if_neg (by omega),fin_some]
  ·rw [hp (by omega),r18_Color.l0,if_neg (by omega),fin_some]
 | succ d ih =>
  intro k i h0 h1 hlt
  have st:=hS i h0 (by omega)
  have eP:∀ (c:S38),c.f3 = c.f3:=fun _=>rfl
  by_cases c1:t > (rd_T47 l i).f0
  ·obtain ⟨c,c2,c3,c4⟩:=ih k (i + 1) (by omega) (by omega) (fun j j0 j1=>by
    by_cases e:j = i
    ·subst e;omega
    ·exact hlt j j0 (by omega))
   refine ⟨c,c2,?_,fun p hp0 hp=>?_⟩
   ·rw [show k + (d + 1) + 6 = k + d + 6 + 1 by omega,gr_color.l0,if_pos (by omega),if_pos h0,if_pos (by omega),if_pos c1,w_in (n:=i + 1) (by omega) (by omega)];exact c3
   ·have g:=c4 (rd_T47 l i).f1 (fun h=>by omega) (fun _=>by rw [show i + 1 - 1 = i by omega])
    rw [show k + 3 * (d + 1) + 6 = k + 3 * d + 6 + 1 + 1 + 1 by omega,r18_Color.l0,if_pos (by omega),if_pos h0,if_pos (by omega),if_pos (by omega),r18_Color.j1]
    have nb:¬ t < (rd_T47 l i).f0:=by omega
    by_cases i0:i > 0
    ·have:=hlt (i - 1) (by omega) (by omega)
     rw [if_pos i0,w_in (n:=i - 1) (by omega) (by omega),if_pos (by omega),if_pos (by omega),if_pos (by omega),if_pos (by omega),if_pos (by omega),decide_eq_false nb,r18_Color.j2,if_neg (by decide),w_in (n:=i + 1) (by omega) (by omega)];exact g
    ·rw [if_neg i0,r18_Color.j2,if_neg (by decide),w_in (n:=i + 1) (by omega) (by omega)];exact g
  by_cases c2:t = (rd_T47 l i).f0
  ·have nb:¬ t < (rd_T47 l i).f0:=by omega
   refine ⟨fin (rd_T47 l i).f1,⟨fun j j0 j1 e=>?_,fun lo hi hb=>?_⟩,?_,fun p hp0 hp=>?_⟩
   ·by_cases a:j = i
    ·rw [a]
    ·rcases Int.lt_or_gt_of_ne a with b|b
     ·have:=stk_inj hS j0 b (by omega);omega
     ·have:=stk_inj hS h0 b j1;omega
   ·rw [fin_a];exact hb _ h0 (by omega)
   ·rw [show k + (d + 1) + 6 = k + d + 5 + 1 + 1 by omega,gr_color.l0,if_pos (by omega),if_pos h0,if_pos (by omega),if_neg c1,decide_eq_false nb,ite_self,gr_color.j1,if_neg (by decide),fin_some]
   ·rw [show k + 3 * (d + 1) + 6 = k + 5 + 3 * d + 1 + 1 + 1 + 1 by omega,r18_Color.l0,if_pos (by omega),if_pos h0,if_pos (by omega),if_pos (by omega),r18_Color.j1]
    have g:=stay l t hS hl d (k + 5) (i + 1) (rd_T47 l i).f1 (by omega) (by omega) (by rw [show i + 1 - 1 = i by omega];omega)
    by_cases i0:i > 0
    ·have:=hlt (i - 1) (by omega) (by omega)
     rw [if_pos i0,w_in (n:=i - 1) (by omega) (by omega),if_pos (by omega),if_pos (by omega),if_pos (by omega),if_pos (by omega),if_pos (by omega),decide_eq_false nb,r18_Color.j2,if_neg (by decide),w_in (n:=i + 1) (by omega) (by omega)];exact g
    ·rw [if_neg i0,r18_Color.j2,if_neg (by decide),w_in (n:=i + 1) (by omega) (by omega)];exact g
  have lt:t < (rd_T47 l i).f0:=by omega
  by_cases i0:i > 0
  ·have lt':=hlt (i - 1) (by omega) (by omega)
   have sp:=hS (i - 1) (by omega) (by omega)
   have u0:=sp.1;have u1:=st.1
   unfold Un at u0 u1 ht
   have us:=dv_un (a:=65535 * (t - (rd_T47 l (i - 1)).f0)) (b:=(rd_T47 l i).f0 - (rd_T47 l (i - 1)).f0) (by omega) (by omega)
   have dd:∀ k,num_Div.f (k + 1) (wrap64 (65535 * wrap64 (t - (rd_T47 l (i - 1)).f0))) (wrap64 ((rd_T47 l i).f0 - (rd_T47 l (i - 1)).f0)) = some (dv (65535 * (t - (rd_T47 l (i - 1)).f0)) ((rd_T47 l i).f0 - (rd_T47 l (i - 1)).f0))∧r01_Div.f (k + 1) (wrap64 (65535 * wrap64 (t - (rd_T47 l (i - 1)).f0))) (wrap64 ((rd_T47 l i).f0 - (rd_T47 l (i - 1)).f0)) = some (dv (65535 * (t - (rd_T47 l (i - 1)).f0)) ((rd_T47 l i).f0 - (rd_T47 l (i - 1)).f0)):=fun k=>by
    rw [w_in (n:=t - (rd_T47 l (i - 1)).f0) (by omega) (by omega),w_in (n:=65535 * (t - (rd_T47 l (i - 1)).f0)) (by omega) (by omega),w_in (n:=(rd_T47 l i).f0 - (rd_T47 l (i - 1)).f0) (by omega) (by omega),div_pos _ _ _ (by omega) (by omega) (by omega),rdiv_pos _ _ _ (by omega) (by omega) (by omega)]
    exact ⟨rfl,rfl⟩
   generalize dv (65535 * (t - (rd_T47 l (i - 1)).f0)) ((rd_T47 l i).f0 - (rd_T47 l (i - 1)).f0) = s at *
   have mx:=fun k=>mix_some k sp.2.1 st.2.1 us
   refine ⟨fin (mixp (rd_T47 l (i - 1)).f1 (rd_T47 l i).f1 s),⟨fun j j0 j1 e=>?_,fun lo hi hb=>?_⟩,?_,fun p hp0 hp=>?_⟩
   ·by_cases a:j < i
    ·have:=hlt j j0 a;omega
    ·by_cases b:j = i
     ·subst b;omega
     ·have:=stk_inj hS h0 (show i < j by omega) j1;omega
   ·rw [fin_a];exact mix_between us (hb _ (by omega) (by omega)) (hb _ h0 (by omega))
   ·rw [show k + (d + 1) + 6 = k + d + 2 + 3 + 1 + 1 by omega,gr_color.l0,if_pos (by omega),if_pos h0,if_pos (by omega),if_neg c1,if_pos i0,decide_eq_true lt,gr_color.j1,if_pos rfl,w_in (n:=i - 1) (by omega) (by omega),if_pos (by omega),if_pos (by omega),(dd _).1]
    simp only [Option.bind_some]
    rw [(mx _).1];simp only [Option.bind_some]
    exact fin_some _
   ·rw [show k + 3 * (d + 1) + 6 = k + 5 + 3 * d + 1 + 1 + 1 + 1 by omega,r18_Color.l0,if_pos (by omega),if_pos h0,if_pos (by omega),if_neg (by omega),r18_Color.j1]
    rw [if_pos i0,w_in (n:=i - 1) (by omega) (by omega),if_pos (by omega),if_pos (by omega),if_pos (by omega),if_pos (by omega),if_pos (by omega),decide_eq_true lt,r18_Color.j2,if_pos rfl,w_in (n:=i - 1) (by omega) (by omega),if_pos (by omega),if_pos (by omega),if_pos (by omega),if_pos (by omega),(dd _).2]
    simp only [Option.bind_some]
    rw [show k + 5 + 3 * d + 1 = k + 3 * d + 3 + 3 by omega,(mx _).2];simp only [Option.bind_some]
    rw [w_in (n:=i + 1) (by omega) (by omega)]
    have g:=stay l t hS hl d (k + 5) (i + 1) (mixp (rd_T47 l (i - 1)).f1 (rd_T47 l i).f1 s) (by omega) (by omega) (by rw [show i + 1 - 1 = i by omega];omega)
    rw [show k + 5 + 3 * d + 1 = k + 3 * d + 3 + 3 by omega] at g;exact g
  ·obtain rfl:i = 0:=by omega
   refine ⟨fin (rd_T47 l 0).f1,⟨fun j j0 j1 e=>?_,fun lo hi hb=>?_⟩,?_,fun p hp0 hp=>?_⟩
   ·by_cases b:j = 0
    ·subst b;rfl
    ·have:=stk_inj hS h0 (show 0 < j by omega) j1;omega
   ·rw [fin_a];exact hb _ h0 (by omega)
   ·rw [show k + (d + 1) + 6 = k + d + 5 + 1 + 1 by omega,gr_color.l0,if_pos (by omega),if_pos h0,if_pos (by omega),if_neg c1,if_neg i0,gr_color.j1,if_neg (by decide),fin_some]
   ·rw [hp0 rfl,show k + 3 * (d + 1) + 6 = k + 5 + 3 * d + 1 + 1 + 1 + 1 by omega,r18_Color.l0,if_pos (by omega),if_pos h0,if_pos (by omega),if_neg (by omega),r18_Color.j1,if_neg i0,r18_Color.j2,if_neg (by decide),w_in (n:=0 + 1) (by omega) (by omega)]
    exact stay l t hS hl d (k + 5) (0 + 1) (rd_T47 l 0).f1 (by omega) (by omega) (by rw [show (0:Int) + 1 - 1 = 0 by omega];omega)
/-- the color at a unit value, of valid stops -/
theorem color_ok {l:List S47} (h:Sok l) {t:Int} (ht:Un t):∃ c,Col l t c∧(∀ k,gr_color.f (k + 60) l t = some (T4 c))∧(∀ k,r18_Color.l0 (k + 60) l t (l.length:Int) 0 (rd_T47 l 0).f1.f0 (rd_T47 l 0).f1.f1 (rd_T47 l 0).f1.f2 (rd_T47 l 0).f1.f3 = some (T4 c)):=by
 obtain ⟨h0,h1,h2⟩:=h
 obtain ⟨c,c1,c2,c3⟩:=color_l l t ht h2 (by omega) h0 l.length (54 - 3 * l.length) 0 (by omega) (by omega) (fun j a b=>by omega)
 refine ⟨c,c1,fun k=>?_,fun k=>?_⟩
 ·refine lift (f:=fun k=>gr_color.f k l t) (fun k=>gr_color.mono _ _ _) (K:=60) ?_ k
  have c4:=lift (f:=fun k=>gr_color.l0 k l t l (l.length:Int) 0 (rd_T47 l (l.length - 1)).f1.f0 (rd_T47 l (l.length - 1)).f1.f1 (rd_T47 l (l.length - 1)).f1.f2 (rd_T47 l (l.length - 1)).f1.f3) (fun k=>(gr_color.mono_l k).1 _ _ _ _ _ _ _ _ _) c2 (2 * l.length)
  rw [show 2 * l.length + (54 - 3 * l.length + l.length + 6) = 60 by omega] at c4
  show gr_color.f 60 l t = _
  unfold gr_color.f
  rw [w_in (n:=(l.length:Int) - 1) (by omega) (by omega),if_pos (by omega),if_pos (by omega)];exact c4
 ·have c4:=c3 (rd_T47 l 0).f1 (fun _=>rfl) (fun h=>absurd h (by omega))
  rw [show 54 - 3 * l.length + 3 * l.length + 6 = 60 by omega] at c4
  exact lift (f:=fun k=>r18_Color.l0 k l t (l.length:Int) 0 (rd_T47 l 0).f1.f0 (rd_T47 l 0).f1.f1 (rd_T47 l 0).f1.f2 (rd_T47 l 0).f1.f3) (fun k=>(r18_Color.mono_l k).1 _ _ _ _ _ _ _ _) c4 k
end Go.Proofs.Ytmlcobnidfkhfaa.Q
namespace Go.Proofs.Ytmlcobnidfkhfaa.Q
open Go.RowKit Go.Proofs.YtmlcobnidfkhfaaW.PrintWords Go.Proofs.YtmlcobnidfkhfaaW.PrintLast Go.Proofs.YtmlcobnidfkhfaaW.PrintMore
set_option linter.unusedVariables false
set_option linter.unusedSimpArgs false
theorem stk_iff {l:List S47} (h1:¬ (l.length:Int) = 0) (h2:¬ (l.length:Int) > 16):Sok l ↔ Stk l 0:=⟨fun h=>h.2.2,fun h=>⟨by omega,by omega,h⟩⟩
theorem Color_some (l:List S47) (t:Int):∃ c,(∀ k,gr_Color.f (k + 70) l t = some (T4 c))∧(∀ k,r18_Color.f (k + 70) l t = some (T4 c))∧(Sok l→Col l (min 65535 (max t 0)) c):=by
 have un:Un (min 65535 (max t 0)):=⟨by omega,by omega⟩
 obtain ⟨e,s1,s2⟩:=Stops_some l
 have nope:¬ Sok l→e ≠ 0:=fun g=>by rcases s2 with ⟨_,a⟩|⟨a,_⟩;exact absurd a g;exact a
 have zero:¬ Sok l→(∀ k,gr_Color.f (k + 70) l t = some (T4 ⟨0,0,0,0⟩))→∃ c,(∀ k,gr_Color.f (k + 70) l t = some (T4 c))∧(∀ k,r18_Color.f (k + 70) l t = some (T4 c))∧(Sok l→Col l (min 65535 (max t 0)) c):=fun g h =>
  ⟨⟨0,0,0,0⟩,h,fun k=>by
   unfold r18_Color.f
   rw [show k + 70 = k + 30 + 40 by omega,s1];simp only [Option.bind_some]
   rw [if_neg (nope g)];rfl,fun g'=>absurd g' g⟩
 by_cases c1:(l.length:Int) = 0
 ·refine zero (fun h=>by have:=h.1;omega) fun k=>?_
  unfold gr_Color.f;rw [if_pos c1,gr_Color.j0,if_pos rfl];rfl
 by_cases c2:(l.length:Int) > 16
 ·refine zero (fun h=>by have:=h.2.1;omega) fun k=>?_
  unfold gr_Color.f;rw [if_neg c1,if_pos c2,gr_Color.j0,if_pos rfl];rfl
 obtain ⟨z,z1,_,z3⟩:=list_some l (by omega)
 have co:∀ k,gr_Color.f (k + 70) l t = gr_Color.j0 (k + 70) l t (z != 0):=fun k=>by
  unfold gr_Color.f;rw [if_neg c1,if_neg c2,show k + 70 = k + 30 + 40 by omega,z1];rfl
 rcases z3 with ⟨z0,g⟩|⟨z0,g⟩
 ·have sk:=(stk_iff c1 c2).mpr g
  obtain ⟨c,d1,d2,d3⟩:=color_ok sk un
  refine ⟨c,fun k=>?_,fun k=>?_,fun _=>d1⟩
  ·rw [co,z0,gr_Color.j0,if_neg (by decide),clamp_some];simp only [Option.bind_some]
   rw [show k + 69 = k + 9 + 60 by omega,d2];rfl
  ·have e0:e = 0:=by rcases s2 with ⟨a,_⟩|⟨_,a⟩;exact a;exact absurd sk a
   unfold r18_Color.f
   rw [show k + 70 = k + 30 + 40 by omega,s1];simp only [Option.bind_some]
   rw [if_pos e0,U_some];simp only [Option.bind_some]
   rw [if_pos (by omega),show k + 30 + 40 = k + 10 + 60 by omega,d3]
 ·refine zero (fun h=>g h.2.2) fun k=>?_
  rw [co,show (z != 0) = true from bne_iff_ne.mpr z0,gr_Color.j0,if_pos rfl];rfl
theorem T4_inj {a b:S38} (h:T4 a = T4 b):a = b:=by
 cases a;cases b;simp only [T4,Prod.mk.injEq] at h;simp [h]
end Go.Proofs.Ytmlcobnidfkhfaa.Q
namespace Go.Proofs.Ytmlcobnidfkhfaa.Q
open Go.RowKit Go.Proofs.YtmlcobnidfkhfaaW.PrintWords Go.Proofs.YtmlcobnidfkhfaaW.PrintLast Go.Proofs.YtmlcobnidfkhfaaW.PrintMore
theorem ex_some:w18_awake.f 90 = some true:=by decide +kernel
theorem ex_at (k:Nat):w18_awake.f (k + 90) = some true:=by
 induction k with
 | zero=>exact ex_some
 | succ k ih=>exact w18_awake.mono (k + 90) _ ih
end Go.Proofs.Ytmlcobnidfkhfaa.Q
