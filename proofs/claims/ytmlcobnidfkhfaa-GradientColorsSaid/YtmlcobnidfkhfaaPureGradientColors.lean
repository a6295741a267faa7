/- GradientColors: Check and Color are the reference's, for all numbers and stops. No condition. -/
import Derived.Test.YtmlcobnidfkhfaaPlC
import Derived.Test.YtmlcobnidfkhfaaQ18c
namespace Go.Proofs.Ytmlcobnidfkhfaa.Pure
open Go.RowKit Go.Proofs.Ytmlcobnidfkhfaa.Q Go.Proofs.YtmlcobnidfkhfaaW.PrintWords Go.Proofs.YtmlcobnidfkhfaaW.PrintLast
set_option linter.unusedVariables false
set_option linter.unusedSimpArgs false
theorem GradientColors (kind:Int) (l:List Int) (spread:Int) (s:List S47) (t:Int):∃ k,w18_GradientColors.f k kind l spread s t = some true:=by
 refine ⟨90,?_⟩
 obtain ⟨e,e1,e2,_⟩:=Check_some kind l spread s
 obtain ⟨c,c1,c2,_⟩:=Color_some s t
 have a1:=e1 40;have a2:=e2 40;have a3:=c1 20;have a4:=c2 20
 unfold w18_GradientColors.f
 rw [a1,a2];simp only [Option.bind_some]
 rw [if_pos trivial,a3,a4];simp only [Option.bind_some]
 rw [if_pos (by simp only [T4,beq_self_eq_true,Bool.and_self]),ex_some];rfl
end Go.Proofs.Ytmlcobnidfkhfaa.Pure
