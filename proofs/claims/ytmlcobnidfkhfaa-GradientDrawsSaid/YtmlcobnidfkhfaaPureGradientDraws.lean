/- GradientDraws: Draw is the reference's, for all numbers, stops and rectangles. No condition. -/
import Derived.Test.YtmlcobnidfkhfaaPlD
import Derived.Test.YtmlcobnidfkhfaaQ22d
namespace Go.Proofs.Ytmlcobnidfkhfaa.Pure
open Go.RowKit Go.Proofs.Ytmlcobnidfkhfaa.Q Go.Proofs.YtmlcobnidfkhfaaW.PrintWords Go.Proofs.YtmlcobnidfkhfaaW.PrintLast
set_option linter.unusedVariables false
set_option linter.unusedSimpArgs false
/-- an image is the same as itself -/
theorem same_l (a b:Int) (p:List S38) (hp:p.length≤65536) (d:Nat):∀ (k:Nat) (i:Int),0≤i→i+d=p.length→w18_same.l0 (k+d+1) (p.length:Int) i a b p a b p=some true:=by
 induction d with
 | zero =>
  intro k i h0 h1
  rw [w18_same.l0,if_neg (by omega)]
 | succ d ih =>
  intro k i h0 h1
  have p1:i<(p.length:Int):=by omega
  rw [show k+(d+1)+1=k+d+1+1 by omega,w18_same.l0]
  simp only [if_pos p1,if_pos h0,beq_self_eq_true,Bool.not_true,Bool.or_self]
  rw [if_neg (by decide),w_in (n:=i+1) (by omega) (by omega)]
  exact ih k (i+1) (by omega) (by omega)
theorem same_some (a b:Int) (p:List S38) (hp:p.length≤65536) (k:Nat):w18_same.f (k+65540) a b p a b p=some true:=by
 unfold w18_same.f
 rw [if_pos rfl,if_pos rfl,show ((p.length:Int) != (p.length:Int))=false from bne_self_eq_false _,show k+65540=k+65539+1 by omega,w18_same.j0,if_neg (by decide)]
 have g:=same_l a b p hp p.length (k+65538-p.length) 0 (by omega) (by omega)
 rw [show k+65538-p.length+p.length+1=k+65539 by omega] at g
 exact g
theorem drawn_len (e kind:Int) (l:List Int) (spread:Int) (s:List S47) (X Y W H:Int):(drawn e kind l spread s X Y W H).2.2.1.length≤65536:=by
 unfold drawn
 split
 ·split
  ·rename_i v
   split
   ·exact Nat.zero_le _
   ·rename_i b
    split
    ·exact Nat.zero_le _
    ·show (rows (pix kind l spread s) X W.toNat Y H.toNat).length≤65536
     rw [rows_len]
     have:H.toNat*W.toNat≤256*256:=Nat.mul_le_mul (by omega) (by omega)
     omega
  ·exact Nat.zero_le _
 ·exact Nat.zero_le _
theorem GradientDraws (kind:Int) (l:List Int) (spread:Int) (s:List S47) (X Y W H:Int):∃ k,w18_GradientDraws.f k kind l spread s X Y W H=some true:=by
 refine ⟨70000,?_⟩
 obtain ⟨e,e1,e2,e3⟩:=Check_some kind l spread s
 have a:=draw_some e1 e3 X Y W H 0
 have b:=rdraw_some e2 e3 X Y W H 0
 have hl:=drawn_len e kind l spread s X Y W H
 rw [Nat.zero_add] at a b
 unfold w18_GradientDraws.f
 rw [a,b];simp only [Option.bind_some]
 generalize drawn e kind l spread s X Y W H=D at *
 have c:=same_some D.1 D.2.1 D.2.2.1 hl 4460
 rw [show 4460+65540=70000 from rfl] at c
 have x:=ex_at 69910
 rw [show 69910+90=70000 from rfl] at x
 rw [c,x];simp only [Option.bind_some]
 rw [if_pos trivial,if_pos trivial]
end Go.Proofs.Ytmlcobnidfkhfaa.Pure
