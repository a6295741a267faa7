/- KernelTurns: Weight is symmetric for every kind but KnNearest, 0 from the support on, and not negative for the kinds that say so. No condition. -/
import Derived.Test.YtfibpimlbmngoaaKern
namespace Go.Proofs.Ytfibpimlbmngoaa.Pure
open Go.RowKit Go.Proofs.Ytfibpimlbmngoaa.Q Go.Proofs.YtfibpimlbmngoaaW.PrintWords Go.Proofs.YtfibpimlbmngoaaW.PrintLast
set_option linter.unusedVariables false
set_option linter.unusedSimpArgs false

theorem wt_turn {kind t : Int} (h : ¬ kind = 0) (h1 : -9223372036854775808 ≤ t) (h2 : t ≤ 9223372036854775807) : Wt kind t = Wt kind (wrap64 (-t)) := by
  by_cases hm : t = -9223372036854775808
  · subst hm; unfold Wt; rw [if_pos (by omega), if_pos (by unfold wrap64; omega)]
  · rw [w_in (by omega) (by omega)]
    have e : ab (-t) = ab t := by unfold ab; omega
    unfold Wt
    simp only [if_neg h, e]
    by_cases hc : t ≤ -131072 ∨ 131072 ≤ t
    · rw [if_pos hc, if_pos (by omega)]
    · rw [if_neg hc, if_neg (show ¬ (-t ≤ -131072 ∨ 131072 ≤ -t) by omega)]

theorem wt_far {kind t : Int} (h : ab t ≥ (if 0 ≤ kind ∧ kind ≤ 4 then sup kind else 0) * 65536) : Wt kind t = 0 := by
  unfold Wt
  by_cases hc : t ≤ -131072 ∨ 131072 ≤ t
  · rw [if_pos hc]
  rw [if_neg hc]
  by_cases e0 : kind = 0
  · subst e0; rw [if_pos rfl]
    rw [if_pos (by omega)] at h; unfold sup at h; rw [if_neg (by omega)] at h; unfold ab at h
    rw [if_neg (by omega)]
  rw [if_neg e0]
  by_cases e1 : kind = 1
  · subst e1; rw [if_pos rfl]
    rw [if_pos (by omega)] at h; unfold sup at h; rw [if_neg (by omega)] at h
    omega
  rw [if_neg e1]
  by_cases e3 : kind = 3
  · subst e3; rw [if_pos rfl]
    rw [if_pos (by omega)] at h; unfold sup at h; rw [if_neg (by omega)] at h
    rw [if_neg (by omega), if_neg (by omega)]
  rw [if_neg e3]
  have ha : ab t < 131072 := by unfold ab; omega
  by_cases e2 : kind = 2
  · subst e2; rw [if_pos (by omega)] at h; unfold sup at h; rw [if_pos (by omega)] at h; omega
  rw [if_neg e2]
  by_cases e4 : kind = 4
  · subst e4; rw [if_pos (by omega)] at h; unfold sup at h; rw [if_pos (by omega)] at h; omega
  rw [if_neg e4]

theorem wt_nn {kind t : Int} (h2 : ¬ kind = 2) (h4 : ¬ kind = 4) : 0 ≤ Wt kind t := by
  unfold Wt
  simp only [if_neg h2, if_neg h4]
  repeat' split
  all_goals omega

theorem turns_j (k : Nat) (kind t : Int) (h1 : -9223372036854775808 ≤ t) (h2 : t ≤ 9223372036854775807) : imageeditorlaw13_KernelTurns.j0 (k + 13) kind t (Wt kind t) false = some true := by
  simp only [imageeditorlaw13_KernelTurns.j0]
  rw [if_neg (by decide), support_some, ex_at k]
  simp only [Option.bind_some]
  have hs : 0 ≤ (if 0 ≤ kind ∧ kind ≤ 4 then sup kind else 0) ∧ (if 0 ≤ kind ∧ kind ≤ 4 then sup kind else 0) ≤ 2 := by unfold sup; repeat' split <;> omega
  have hf := @wt_far kind t
  have hn := @wt_nn kind t
  generalize (if 0 ≤ kind ∧ kind ≤ 4 then sup kind else 0) = s at *
  rw [w_in (n := s * 65536) (by omega) (by omega), w_in (n := -(s * 65536)) (by omega) (by omega)]
  have hfin : (if kind = 2 then some true else if kind = 4 then some true else if Wt kind t ≥ 0 then some true else some false) = some true := by
    by_cases e2 : kind = 2
    · rw [if_pos e2]
    rw [if_neg e2]
    by_cases e4 : kind = 4
    · rw [if_pos e4]
    rw [if_neg e4, if_pos (hn e2 e4)]
  rw [hfin]
  by_cases c1 : t ≥ s * 65536
  · rw [if_pos c1, if_pos (hf (by unfold ab; omega))]
  rw [if_neg c1]
  by_cases c2 : t ≤ -(s * 65536)
  · rw [if_pos c2, if_pos (hf (by unfold ab; omega))]
  rw [if_neg c2]

theorem KernelTurns : imageeditorlaw13_KernelTurns.Pure := by
  intro kind t _ ht
  have hb := wf_bd ht
  refine ⟨13, ?_⟩
  unfold imageeditorlaw13_KernelTurns.f
  rw [weight_some 11]; simp only [Option.bind_some]
  by_cases h0 : kind = 0
  · rw [if_pos h0]; exact turns_j 0 _ _ hb.1 hb.2
  · rw [if_neg h0, weight_some 11]; simp only [Option.bind_some]
    rw [show (Wt kind t != Wt kind (wrap64 (-t))) = false by rw [← wt_turn h0 hb.1 hb.2]; simp]
    exact turns_j 0 _ _ hb.1 hb.2
end Go.Proofs.Ytfibpimlbmngoaa.Pure
