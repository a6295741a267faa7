/- GradientParts: the image of one pixel is the pixel of the image, for all numbers, stops and rectangles. No condition. -/
import Derived.Test.YtmlcobnidfkhfaaPlP
import Derived.Test.YtmlcobnidfkhfaaQ14p
namespace Go.Proofs.Ytmlcobnidfkhfaa.Pure
open Go.RowKit Go.Proofs.Ytmlcobnidfkhfaa.Q Go.Proofs.YtmlcobnidfkhfaaW.PrintWords Go.Proofs.YtmlcobnidfkhfaaW.PrintLast
set_option linter.unusedVariables false
set_option linter.unusedSimpArgs false
theorem drawn_ok {e kind:Int} {l:List Int} {spread:Int} {s:List S47} {X Y W H:Int} (h:(drawn e kind l spread s X Y W H).2.2.2 = 0) (hw:0 < W) (hh:0 < H):e = 0∧(Sv X W∧Sv Y H)∧W≤256∧H≤256∧drawn e kind l spread s X Y W H = (W,H,rows (pix kind l spread s) X W.toNat Y H.toNat,0):=by
 unfold drawn at h ⊢
 by_cases c1:e = 0
 ·rw [if_pos c1] at h ⊢
  by_cases c2:Sv X W∧Sv Y H
  ·rw [if_pos c2] at h ⊢
   by_cases c3:W > 256 ∨ H > 256
   ·rw [if_pos c3] at h;exact absurd h (by decide)
   ·rw [if_neg c3,if_neg (by omega)]
    exact ⟨c1,c2,by omega,by omega,rfl⟩
  ·rw [if_neg c2] at h;exact absurd h (by decide)
 ·rw [if_neg c1] at h;exact absurd h c1
theorem GradientParts (kind:Int) (l:List Int) (spread:Int) (s:List S47) (X Y W H x y:Int):∃ k,w18_GradientParts.f k kind l spread s X Y W H x y = some true:=by
 refine ⟨70001,?_⟩
 obtain ⟨e,e1,_,e3⟩:=Check_some kind l spread s
 have x0:=ex_at 69910
 rw [show 69910 + 90 = 70000 from rfl] at x0
 have aw:w18_GradientParts.j0 70001 kind l spread s x y true X Y W H = some true:=by
  rw [show (70001:Nat) = 70000 + 1 from rfl,w18_GradientParts.j0,if_pos rfl,x0];rfl
 unfold w18_GradientParts.f
 by_cases c1:x < 0
 ·rw [if_pos c1];exact aw
 rw [if_neg c1]
 by_cases c2:x≥W
 ·rw [if_pos c2];exact aw
 rw [if_neg c2]
 by_cases c3:y < 0
 ·rw [if_pos c3];exact aw
 rw [if_neg c3]
 by_cases c4:y≥H
 ·rw [decide_eq_true c4];exact aw
 rw [decide_eq_false c4,show (70001:Nat) = 70000 + 1 from rfl,w18_GradientParts.j0,if_neg (by decide)]
 have a:=draw_some e1 e3 X Y W H 0
 rw [Nat.zero_add] at a
 rw [a];simp only [Option.bind_some]
 by_cases z:(drawn e kind l spread s X Y W H).2.2.2 = 0
 ·obtain ⟨e0,⟨⟨v1,v2,v3,v4⟩,v5,v6,v7,v8⟩,w1,w2,q⟩:=drawn_ok z (by omega) (by omega)
  rw [if_pos z]
  have b:=draw_some e1 e3 (X + x) (Y + y) 1 1 0
  rw [Nat.zero_add] at b
  have qb:drawn e kind l spread s (X + x) (Y + y) 1 1 = (1,1,[pix kind l spread s (X + x) (Y + y)],0):=by
   unfold drawn
   rw [if_pos e0,if_pos ⟨⟨by omega,by omega,by omega,by omega⟩,by omega,by omega,by omega,by omega⟩,if_neg (by omega),if_neg (by omega)];rfl
  rw [w_in (n:=X + x) (by omega) (by omega),w_in (n:=Y + y) (by omega) (by omega),b,qb];simp only [Option.bind_some]
  obtain ⟨w,rfl⟩:∃ w:Nat,W = w:=⟨W.toNat,by omega⟩
  obtain ⟨h,rfl⟩:∃ h:Nat,H = h:=⟨H.toNat,by omega⟩
  obtain ⟨i,rfl⟩:∃ i:Nat,x = i:=⟨x.toNat,by omega⟩
  obtain ⟨j,rfl⟩:∃ j:Nat,y = j:=⟨y.toNat,by omega⟩
  have m:h * w≤256 * 256:=Nat.mul_le_mul (by omega) (by omega)
  have m1:j * w + w≤h * w:=by rw [← Nat.succ_mul];exact Nat.mul_le_mul (by omega) (Nat.le_refl _)
  have mi:((w:Int) * (h:Int)) = ((h * w:Nat):Int):=by push_cast;exact Int.mul_comm _ _
  have mj:((j:Int) * (w:Int)) = ((j * w:Nat):Int):=by push_cast;rfl
  have ln:(drawn e kind l spread s X Y w h).2.2.1.length = h * w:=by rw [q];show (rows _ _ _ _ _).length = _;rw [rows_len,Int.toNat_natCast,Int.toNat_natCast]
  have at_:rd_T38 (drawn e kind l spread s X Y w h).2.2.1 ((j * w:Nat) + (i:Int)) = pix kind l spread s (X + i) (Y + j):=by
   rw [q]
   show (rows (pix kind l spread s) X (w:Int).toNat Y (h:Int).toNat).getD (((j * w:Nat):Int) + (i:Int)).toNat z38 = _
   rw [Int.toNat_natCast,Int.toNat_natCast,show (((j * w:Nat):Int) + (i:Int)).toNat = j * w + i by omega]
   exact rows_at _ _ _ _ _ _ _ (by omega) (by omega)
  have one:rd_T38 [pix kind l spread s (X + i) (Y + j)] 0 = pix kind l spread s (X + i) (Y + j):=rfl
  rw [mi,mj,ln,w_in (n:=((h * w:Nat):Int)) (by omega) (by omega),w_in (n:=((j * w:Nat):Int)) (by omega) (by omega),w_in (n:=((j * w:Nat):Int) + (i:Int)) (by omega) (by omega),at_,one]
  have o1:((([pix kind l spread s (X + i) (Y + j)]:List S38).length:Nat):Int) = 1:=rfl
  rw [o1,if_pos trivial,if_pos rfl,if_pos rfl,if_pos (by decide),if_pos (by omega),if_pos (by omega),if_pos (by simp),x0];rfl
 ·rw [if_neg z,x0];rfl
end Go.Proofs.Ytmlcobnidfkhfaa.Pure
