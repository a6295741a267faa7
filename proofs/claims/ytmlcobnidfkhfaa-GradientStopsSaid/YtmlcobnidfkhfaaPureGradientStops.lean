/- GradientStops: at a stop the color is the stop's, and the alpha anywhere is between the least and the greatest of the stops', for all stops and positions. No condition. -/
import Derived.Test.YtmlcobnidfkhfaaPlC
import Derived.Test.YtmlcobnidfkhfaaQ23
namespace Go.Proofs.Ytmlcobnidfkhfaa.Pure
open Go.RowKit Go.Proofs.Ytmlcobnidfkhfaa.Q Go.Proofs.YtmlcobnidfkhfaaW.PrintWords Go.Proofs.YtmlcobnidfkhfaaW.PrintLast
set_option linter.unusedVariables false
set_option linter.unusedSimpArgs false
/-- at a stop -/
theorem at_stop {l:List S47} (h:Sok l) {i:Int} (h0:0≤i) (h1:i < l.length) (k:Nat):gr_Color.f (k + 70) l (rd_T47 l i).f0 = some (T4 (fin (rd_T47 l i).f1)):=by
 obtain ⟨c,c1,_,c3⟩:=Color_some l (rd_T47 l i).f0
 have hc:=c3 h
 rw [un_id (h.2.2 i h0 h1).1] at hc
 rw [c1,hc.1 i h0 h1 rfl]
theorem stops_l {l:List S47} (h:Sok l) (t:Int) (d:Nat):∀ (k:Nat) (i lo hi:Int),0≤i→i + d = l.length→(∀ j:Int,0≤j→j < i→lo≤(rd_T47 l j).f1.f3∧(rd_T47 l j).f1.f3≤hi) →
  w18_GradientStops.l0 (k + 3 * d + 100) l t lo hi (l.length:Int) i = some true:=by
 have hl:=h.2.1
 induction d with
 | zero =>
  intro k i lo hi h0 h1 hb
  obtain rfl:i = l.length:=by omega
  obtain ⟨c,c1,_,c3⟩:=Color_some l t
  have b:=(c3 h).2 lo hi hb
  rw [w18_GradientStops.l0,if_neg (by omega),show k + 3 * 0 + 99 = k + 29 + 70 by omega,c1];simp only [Option.bind_some]
  rw [if_pos (show (T4 c).2.2.2≥lo from b.1),if_pos (show (T4 c).2.2.2≤hi from b.2),show k + 29 + 70 = k + 9 + 90 by omega,ex_at];rfl
 | succ d ih =>
  intro k i lo hi h0 h1 hb
  have key:∀ lo' hi':Int,lo'≤lo→hi≤hi'→lo'≤(rd_T47 l i).f1.f3→(rd_T47 l i).f1.f3≤hi'→w18_GradientStops.j2 (k + 3 * d + 100 + 1) l t lo' hi' i (l.length:Int) i (rd_T47 l i).f1.f0 (rd_T47 l i).f1.f1 (rd_T47 l i).f1.f2 (rd_T47 l i).f1.f3 = some true:=by
   intro lo' hi' b1 b2 b3 b4
   have g:=ih k (i + 1) lo' hi' (by omega) (by omega) (fun j j0 j1=>by
    by_cases e:j = i
    ·subst e;exact ⟨b3,b4⟩
    ·have:=hb j j0 (by omega);omega)
   have at_:=at_stop h h0 (by omega) (k + 3 * d + 30)
   have p1:i < (l.length:Int):=by omega
   rw [w18_GradientStops.j2,show k + 3 * d + 100 = k + 3 * d + 30 + 70 by omega,at_,w_in (n:=i + 1) (by omega) (by omega)]
   simp only [Option.bind_some,if_pos h0,if_pos p1]
   rw [show k + 3 * d + 30 + 70 = k + 3 * d + 100 by omega,g]
   unfold fin
   by_cases z:(rd_T47 l i).f1.f3 = 0
   ·rw [if_pos z,if_pos z];rfl
   ·rw [if_neg z,if_neg z,if_neg (by simp [T4])]
  rw [show k + 3 * (d + 1) + 100 = k + 3 * d + 100 + 1 + 1 + 1 by omega,w18_GradientStops.l0,if_pos (by omega),if_pos h0,if_pos (by omega)]
  by_cases a:(rd_T47 l i).f1.f3 < lo
  ·rw [if_pos a,w18_GradientStops.j1]
   by_cases b:(rd_T47 l i).f1.f3 > hi
   ·rw [if_pos b];exact key _ _ (by omega) (by omega) (by omega) (by omega)
   ·rw [if_neg b];exact key _ _ (by omega) (by omega) (by omega) (by omega)
  ·rw [if_neg a,w18_GradientStops.j1]
   by_cases b:(rd_T47 l i).f1.f3 > hi
   ·rw [if_pos b];exact key _ _ (by omega) (by omega) (by omega) (by omega)
   ·rw [if_neg b];exact key _ _ (by omega) (by omega) (by omega) (by omega)
theorem GradientStops (s:List S47) (t:Int):∃ k,w18_GradientStops.f k s t = some true:=by
 obtain ⟨e,s1,s2⟩:=Stops_some s
 refine ⟨3 * s.length + 100,?_⟩
 have a:=s1 (3 * s.length + 60)
 rw [show 3 * s.length + 60 + 40 = 3 * s.length + 100 by omega] at a
 unfold w18_GradientStops.f
 rw [a];simp only [Option.bind_some]
 rcases s2 with ⟨z,g⟩|⟨z,g⟩
 ·rw [if_pos z]
  have b:=stops_l g t s.length 0 0 65535 0 (by omega) (by omega) (fun j a b=>by omega)
  rw [show 0 + 3 * s.length + 100 = 3 * s.length + 100 by omega] at b;exact b
 ·rw [if_neg z,show 3 * s.length + 100 = 3 * s.length + 10 + 90 by omega,ex_at];rfl
end Go.Proofs.Ytmlcobnidfkhfaa.Pure
