/- What the program's and the reference's Taps compute, in plain numbers and lists. -/
import Derived.Test.YtfibpimlbmngoaaKern
namespace Go.Proofs.Ytfibpimlbmngoaa.Q
open Go.RowKit Go.Proofs.YtfibpimlbmngoaaW.PrintWords Go.Proofs.YtfibpimlbmngoaaW.PrintLast Go.Proofs.YtfibpimlbmngoaaW.PrintMore
set_option linter.unusedVariables false
set_option linter.unusedSimpArgs false

/-! the weights before they are normalized -/
def raws (kind u : Int) : List Int :=
  if sup kind = 1 then (if u = 0 then [Wt kind u] else [Wt kind u, Wt kind (u - 65536)])
  else (if u = 0 then [Wt kind (u + 65536), Wt kind u, Wt kind (u - 65536)] else [Wt kind (u + 65536), Wt kind u, Wt kind (u - 65536), Wt kind (u - 131072)])
def lsum : List Int → Int
  | [] => 0
  | a :: l => a + lsum l

theorem dv_bd {a : Int} {b B : Int} (hb : 8589934592 ≤ b) (hB : -B ≤ a ∧ a ≤ B) : -(B + b) ≤ dv a b * b ∧ dv a b * b ≤ B + b := by
  have := dv_near a b (by omega); omega
theorem wt_bd (kind t : Int) : -16777216 ≤ Wt kind t ∧ Wt kind t ≤ 16777216 := by
  unfold Wt
  by_cases h : t ≤ -131072 ∨ 131072 ≤ t
  · rw [if_pos h]; omega
  rw [if_neg h]
  have ha0 : 0 ≤ ab t := by unfold ab; omega
  have ha1 : ab t < 131072 := by unfold ab; omega
  have hp := pow_bd ha0 ha1
  have d1 := dv_near (cubN (ab t)) 8589934592 (by omega)
  have d2 := dv_near (cubF (ab t)) 8589934592 (by omega)
  have d3 := dv_near (mitN (ab t)) 77309411328 (by omega)
  have d4 := dv_near (mitF (ab t)) 77309411328 (by omega)
  unfold cubN at d1 ⊢; unfold cubF at d2 ⊢; unfold mitN at d3 ⊢; unfold mitF at d4 ⊢
  repeat' split
  all_goals omega

theorem cub_sum (u : Int) : cubF (u + 65536) + cubN u + cubN (65536 - u) + cubF (131072 - u) = 562949953421312 := by
  unfold cubF cubN; grind
theorem mit_sum (u : Int) : mitF (u + 65536) + mitN u + mitN (65536 - u) + mitF (131072 - u) = 5066549580791808 := by
  unfold mitF mitN; grind

/-- P13.7 -/
theorem raws_sum {kind u : Int} (hk : 0 ≤ kind ∧ kind ≤ 4) (hu : 0 ≤ u ∧ u < 65536) : 65532 ≤ lsum (raws kind u) ∧ lsum (raws kind u) ≤ 65540 := by
  unfold raws
  by_cases hs : sup kind = 1
  · rw [if_pos hs]
    have h2 : ¬ kind = 2 := by intro h; subst h; exact absurd hs (by decide)
    have h4 : ¬ kind = 4 := by intro h; subst h; exact absurd hs (by decide)
    by_cases h0 : u = 0
    · rw [if_pos h0]; simp only [lsum, Wt, ab]; subst h0
      repeat' split
      all_goals omega
    · rw [if_neg h0]; simp only [lsum, Wt, ab]
      rw [if_neg (show ¬ (u ≤ -131072 ∨ 131072 ≤ u) by omega), if_neg (show ¬ (u - 65536 ≤ -131072 ∨ 131072 ≤ u - 65536) by omega)]
      simp only [if_neg h2, if_neg h4]
      by_cases e0 : kind = 0
      · simp only [if_pos e0]; repeat' split
        all_goals omega
      · simp only [if_neg e0]
        by_cases e1 : kind = 1
        · simp only [if_pos e1]; omega
        · simp only [if_neg e1]
          have e3 : kind = 3 := by omega
          simp only [if_pos e3]; repeat' split
          all_goals omega
  · rw [if_neg hs]
    have h24 : kind = 2 ∨ kind = 4 := by unfold sup at hs; split at hs <;> omega
    by_cases h0 : u = 0
    · rw [if_pos h0]; subst h0
      rcases h24 with h | h <;> subst h <;> decide
    · rw [if_neg h0]; simp only [lsum, Wt]
      have a1 : ab (u + 65536) = u + 65536 := by unfold ab; omega
      have a2 : ab u = u := by unfold ab; omega
      have a3 : ab (u - 65536) = 65536 - u := by unfold ab; omega
      have a4 : ab (u - 131072) = 131072 - u := by unfold ab; omega
      rw [if_neg (show ¬ (u + 65536 ≤ -131072 ∨ 131072 ≤ u + 65536) by omega), if_neg (show ¬ (u ≤ -131072 ∨ 131072 ≤ u) by omega), if_neg (show ¬ (u - 65536 ≤ -131072 ∨ 131072 ≤ u - 65536) by omega), if_neg (show ¬ (u - 131072 ≤ -131072 ∨ 131072 ≤ u - 131072) by omega), a1, a2, a3, a4]
      rcases h24 with h | h
      · subst h
        simp only [if_pos, if_neg (show ¬ (2 : Int) = 0 by decide), if_neg (show ¬ (2 : Int) = 1 by decide), if_neg (show ¬ (2 : Int) = 3 by decide)]
        rw [if_neg (show ¬ u + 65536 < 65536 by omega), if_pos (show u < 65536 by omega), if_pos (show 65536 - u < 65536 by omega), if_neg (show ¬ 131072 - u < 65536 by omega)]
        have e := cub_sum u
        have d1 := dv_near (cubF (u + 65536)) 8589934592 (by omega)
        have d2 := dv_near (cubN u) 8589934592 (by omega)
        have d3 := dv_near (cubN (65536 - u)) 8589934592 (by omega)
        have d4 := dv_near (cubF (131072 - u)) 8589934592 (by omega)
        omega
      · subst h
        simp only [if_pos, if_neg (show ¬ (4 : Int) = 0 by decide), if_neg (show ¬ (4 : Int) = 1 by decide), if_neg (show ¬ (4 : Int) = 3 by decide), if_neg (show ¬ (4 : Int) = 2 by decide)]
        rw [if_neg (show ¬ u + 65536 < 65536 by omega), if_pos (show u < 65536 by omega), if_pos (show 65536 - u < 65536 by omega), if_neg (show ¬ 131072 - u < 65536 by omega)]
        have e := mit_sum u
        have d1 := dv_near (mitF (u + 65536)) 77309411328 (by omega)
        have d2 := dv_near (mitN u) 77309411328 (by omega)
        have d3 := dv_near (mitN (65536 - u)) 77309411328 (by omega)
        have d4 := dv_near (mitF (131072 - u)) 77309411328 (by omega)
        omega

theorem raws_len {kind u : Int} : (raws kind u).length ≤ 4 ∧ 0 < (raws kind u).length := by
  unfold raws; repeat' split
  all_goals simp
theorem wt_lo (kind t : Int) : -16777216 ≤ Wt kind t := (wt_bd kind t).1
theorem wt_hi (kind t : Int) : Wt kind t ≤ 16777216 := (wt_bd kind t).2
theorem raws_bd {kind u : Int} : ∀ w ∈ raws kind u, -16777216 ≤ w ∧ w ≤ 16777216 := by
  unfold raws; repeat' split
  all_goals simp [wt_lo, wt_hi]

/-! the second loop: the weights are normalized -/
def fin (sum : Int) : Nat → List Int → Int → Int → Int → List Int
  | 0, ws, rest, best, _ => ws.set best.toNat (wrap64 (rd ws best + rest))
  | d + 1, ws, rest, best, i => fin sum d (ws.set i.toNat (dv (rd ws i * 65536) sum)) (wrap64 (rest - dv (rd ws i * 65536) sum)) (if dv (rd ws i * 65536) sum > rd (ws.set i.toNat (dv (rd ws i * 65536) sum)) best then i else best) (i + 1)

theorem rd_set {ws : List Int} {i : Int} (v : Int) (h0 : 0 ≤ i) (h1 : i < (ws.length : Int)) : rd (ws.set i.toNat v) i = v := by
  unfold rd; rw [List.getD_eq_getElem?_getD, List.getElem?_set_self (by omega)]; rfl
theorem rd_set_ne {ws : List Int} {i j : Int} (v : Int) (h : i ≠ j) (h0 : 0 ≤ i) (h1 : 0 ≤ j) : rd (ws.set i.toNat v) j = rd ws j := by
  unfold rd; rw [List.getD_eq_getElem?_getD, List.getD_eq_getElem?_getD, List.getElem?_set_ne (by omega)]

/-- from i on the list's elements are no great ones -/
def Tame (ws : List Int) (i : Int) : Prop := ∀ j : Int, i ≤ j → j < ws.length → -16777216 ≤ rd ws j ∧ rd ws j ≤ 16777216

theorem tame_set {ws : List Int} {i : Int} (v : Int) (h0 : 0 ≤ i) (h : Tame ws i) : Tame (ws.set i.toNat v) (i + 1) := by
  intro j h1 h2
  rw [List.length_set] at h2
  rw [rd_set_ne v (by omega) h0 (by omega)]
  exact h j (by omega) h2

theorem l1_some (first sum : Int) (hs : 0 < sum ∧ sum ≤ 1048576) (d : Nat) : ∀ (k : Nat) (ws : List Int) (rest best i : Int), 0 ≤ best → best < ws.length → 0 ≤ i → i + d = ws.length → ws.length ≤ 1000 → Tame ws i →
    kernel_Taps.l1 (k + d + 2) first ws sum rest best (ws.length : Int) i = some (first, fin sum d ws rest best i) := by
  induction d with
  | zero =>
    intro k ws rest best i hb0 hb1 hi0 hi hl ht
    simp only [kernel_Taps.l1, fin]
    rw [if_neg (by omega), if_pos hb0, if_pos hb1]
  | succ d ih =>
    intro k ws rest best i hb0 hb1 hi0 hi hl ht
    rw [show k + (d + 1) + 2 = (k + d + 2) + 1 by omega]
    have hw := ht i (by omega) (by omega)
    rw [kernel_Taps.l1]
    rw [if_pos (by omega), if_pos hi0, if_pos (by omega), w_in (n := rd ws i * 65536) (by omega) (by omega), show k + d + 2 = (k + d + 1) + 1 by omega, div_pos (k + d + 1) _ _ hs.1 (by omega) (by omega)]
    simp only [Option.bind_some]
    rw [rd_set _ hi0 (by omega), if_pos hb0, if_pos hb1, w_in (n := i + 1) (by omega) (by omega)]
    have hlen : (ws.length : Int) = ((ws.set i.toNat (dv (rd ws i * 65536) sum)).length : Int) := by rw [List.length_set]
    by_cases hc : dv (rd ws i * 65536) sum > rd (ws.set i.toNat (dv (rd ws i * 65536) sum)) best
    · rw [if_pos hc]
      rw [hlen]
      rw [show k + d + 1 + 1 = k + d + 2 by omega, ih k _ _ i (i + 1) (by omega) (by rw [List.length_set]; omega) (by omega) (by rw [List.length_set]; omega) (by rw [List.length_set]; omega) (tame_set _ hi0 ht)]
      rw [fin, if_pos hc]
    · rw [if_neg hc]
      rw [hlen]
      rw [show k + d + 1 + 1 = k + d + 2 by omega, ih k _ _ best (i + 1) (by omega) (by rw [List.length_set]; omega) (by omega) (by rw [List.length_set]; omega) (by rw [List.length_set]; omega) (tame_set _ hi0 ht)]
      rw [fin, if_neg hc]

theorem rl1_some (first sum : Int) (hs : 0 < sum ∧ sum ≤ 1048576) (d : Nat) : ∀ (k : Nat) (ws : List Int) (total best i : Int), 0 ≤ best → best < ws.length → 0 ≤ i → i + d = ws.length → ws.length ≤ 1000 → Tame ws i →
    imageeditorref13_Taps.l1 (k + d + 2) first ws sum total best i = some (first, fin sum d ws (wrap64 (65536 - total)) best i) := by
  induction d with
  | zero =>
    intro k ws total best i hb0 hb1 hi0 hi hl ht
    simp only [imageeditorref13_Taps.l1, fin]
    rw [if_neg (by omega), if_pos hb0, if_pos hb1, w_addr, w_subl, show rd ws best + (65536 - total) = rd ws best + 65536 - total by omega]
  | succ d ih =>
    intro k ws total best i hb0 hb1 hi0 hi hl ht
    rw [show k + (d + 1) + 2 = (k + d + 2) + 1 by omega]
    have hw := ht i (by omega) (by omega)
    rw [imageeditorref13_Taps.l1]
    rw [if_pos (by omega), if_pos hi0, w_in (n := rd ws i * 65536) (by omega) (by omega), show k + d + 2 = (k + d + 1) + 1 by omega, rdiv_pos (k + d + 1) _ _ hs.1 (by omega) (by omega)]
    simp only [Option.bind_some]
    rw [rd_set _ hi0 (by omega), if_pos hb0, if_pos hb1, w_in (n := i + 1) (by omega) (by omega)]
    have hr : wrap64 (65536 - wrap64 (total + dv (rd ws i * 65536) sum)) = wrap64 (wrap64 (65536 - total) - dv (rd ws i * 65536) sum) := by
      rw [w_subr, w_subl, show 65536 - (total + dv (rd ws i * 65536) sum) = 65536 - total - dv (rd ws i * 65536) sum by omega]
    by_cases hc : dv (rd ws i * 65536) sum > rd (ws.set i.toNat (dv (rd ws i * 65536) sum)) best
    · rw [if_pos hc]
      rw [show k + d + 1 + 1 = k + d + 2 by omega, ih k _ _ i (i + 1) (by omega) (by rw [List.length_set]; omega) (by omega) (by rw [List.length_set]; omega) (by rw [List.length_set]; omega) (tame_set _ hi0 ht), hr]
      rw [fin, if_pos hc]
    · rw [if_neg hc]
      rw [show k + d + 1 + 1 = k + d + 2 by omega, ih k _ _ best (i + 1) (by omega) (by rw [List.length_set]; omega) (by omega) (by rw [List.length_set]; omega) (by rw [List.length_set]; omega) (tame_set _ hi0 ht), hr]
      rw [fin, if_neg hc]

/-! the first loop -/
theorem l0_step (k : Nat) {kind x f reach sum c : Int} {ws : List Int} (h : c < x + reach) (hl : ws.length < 8) (hx : -2199023255552 ≤ x ∧ x ≤ 2199023255552) (hc : -2199023255552 ≤ c ∧ c ≤ 2199023255552) (hr : 0 ≤ reach ∧ reach ≤ 131072) :
    kernel_Taps.l0 (k + 3) kind x f ws reach sum c = kernel_Taps.l0 (k + 2) kind x f (ws ++ [Wt kind (x - c)]) reach (wrap64 (sum + Wt kind (x - c))) (c + 65536) := by
  rw [kernel_Taps.l0]
  rw [w_in (n := x + reach) (by omega) (by omega), if_pos h, w_in (n := x - c) (by omega) (by omega), weight_some k, w_in (n := c + 65536) (by omega) (by omega)]
  simp only [Option.bind_some]
  rw [if_pos (by omega)]
theorem l0_end (k : Nat) {kind x f reach sum c : Int} {ws : List Int} (h : ¬ c < x + reach) (hx : -2199023255552 ≤ x ∧ x ≤ 2199023255552) (hr : 0 ≤ reach ∧ reach ≤ 131072) :
    kernel_Taps.l0 (k + 1) kind x f ws reach sum c = kernel_Taps.l1 k f ws sum 65536 0 (ws.length : Int) 0 := by
  rw [kernel_Taps.l0]
  rw [w_in (n := x + reach) (by omega) (by omega), if_neg h]

theorem rl0_step (k : Nat) {kind x f reach sum i : Int} {ws : List Int} (h : i * 65536 + 32768 < x + reach) (hl : ws.length < 8) (hx : -2199023255552 ≤ x ∧ x ≤ 2199023255552) (hc : -33554432 ≤ i ∧ i ≤ 33554432) (hr : 0 ≤ reach ∧ reach ≤ 131072) :
    imageeditorref13_Taps.l0 (k + 3) kind x reach f ws sum i = imageeditorref13_Taps.l0 (k + 2) kind x reach f (ws ++ [Wt kind (x - (i * 65536 + 32768))]) (wrap64 (sum + Wt kind (x - (i * 65536 + 32768)))) (i + 1) := by
  rw [imageeditorref13_Taps.l0]
  rw [w_in (n := i * 65536) (by omega) (by omega), w_in (n := i * 65536 + 32768) (by omega) (by omega), w_in (n := x + reach) (by omega) (by omega), if_pos h, w_in (n := x - (i * 65536 + 32768)) (by omega) (by omega), rweight_some k, w_in (n := i + 1) (by omega) (by omega)]
  simp only [Option.bind_some]
  have hlen : ((ws ++ [Wt kind (x - (i * 65536 + 32768))]).length : Int) = (ws.length : Int) + 1 := by simp
  rw [if_pos (by omega), hlen, w_in (n := (ws.length : Int) + 1 - 1) (by omega) (by omega), if_pos (by omega), if_pos (by omega)]
  rw [show rd (ws ++ [Wt kind (x - (i * 65536 + 32768))]) ((ws.length : Int) + 1 - 1) = Wt kind (x - (i * 65536 + 32768)) by
    unfold rd; rw [show ((ws.length : Int) + 1 - 1).toNat = ws.length by omega]; simp]
theorem rl0_end (k : Nat) {kind x f reach sum i : Int} {ws : List Int} (h : ¬ i * 65536 + 32768 < x + reach) (hx : -2199023255552 ≤ x ∧ x ≤ 2199023255552) (hc : -33554432 ≤ i ∧ i ≤ 33554432) (hr : 0 ≤ reach ∧ reach ≤ 131072) :
    imageeditorref13_Taps.l0 (k + 1) kind x reach f ws sum i = imageeditorref13_Taps.l1 k f ws sum 0 0 0 := by
  rw [imageeditorref13_Taps.l0]
  rw [w_in (n := i * 65536) (by omega) (by omega), w_in (n := i * 65536 + 32768) (by omega) (by omega), w_in (n := x + reach) (by omega) (by omega), if_neg h]

/-- the taps of a valid kind -/
def nw (kind u : Int) : List Int := fin (lsum (raws kind u)) (raws kind u).length (raws kind u) 65536 0 0

theorem tame_raws (kind u : Int) : Tame (raws kind u) 0 := by
  intro j h0 h1
  have : rd (raws kind u) j ∈ raws kind u := by
    unfold rd; rw [List.getD_eq_getElem?_getD, List.getElem?_eq_getElem (by omega)]; exact List.getElem_mem _
  exact raws_bd _ this

theorem l1_raws (k : Nat) {kind u : Int} (f : Int) (hk : 0 ≤ kind ∧ kind ≤ 4) (hu : 0 ≤ u ∧ u < 65536) :
    kernel_Taps.l1 (k + 6) f (raws kind u) (lsum (raws kind u)) 65536 0 ((raws kind u).length : Int) 0 = some (f, nw kind u) := by
  have hl := @raws_len kind u
  have hs := raws_sum hk hu
  rw [show k + 6 = (k + (4 - (raws kind u).length)) + (raws kind u).length + 2 by omega]
  exact l1_some f _ (by omega) _ _ _ _ _ _ (by omega) (by omega) (by omega) (by omega) (by omega) (tame_raws kind u)
theorem rl1_raws (k : Nat) {kind u : Int} (f : Int) (hk : 0 ≤ kind ∧ kind ≤ 4) (hu : 0 ≤ u ∧ u < 65536) :
    imageeditorref13_Taps.l1 (k + 6) f (raws kind u) (lsum (raws kind u)) 0 0 0 = some (f, nw kind u) := by
  have hl := @raws_len kind u
  have hs := raws_sum hk hu
  rw [show k + 6 = (k + (4 - (raws kind u).length)) + (raws kind u).length + 2 by omega]
  rw [rl1_some f _ (by omega) _ _ _ _ _ _ (by omega) (by omega) (by omega) (by omega) (by omega) (tame_raws kind u), w_in (n := 65536 - 0) (by omega) (by omega)]
  rfl

theorem w_lsum {kind u : Int} (hk : 0 ≤ kind ∧ kind ≤ 4) (hu : 0 ≤ u ∧ u < 65536) : wrap64 (lsum (raws kind u)) = lsum (raws kind u) := by
  have hs := raws_sum hk hu
  exact w_in (by omega) (by omega)

theorem l0_raws (k : Nat) {kind x p u : Int} (hk : 0 ≤ kind ∧ kind ≤ 4) (hu : 0 ≤ u ∧ u < 65536) (hx : x = p * 65536 + 32768 + u) (hb : -1099511627776 ≤ x ∧ x ≤ 1099511627776) :
    kernel_Taps.l0 (k + 12) kind x (p - sup kind + 1) [] (sup kind * 65536) 0 ((p - sup kind + 1) * 65536 + 32768) = some (p - sup kind + 1, nw kind u) := by
  have hw := w_lsum hk hu
  have l1 := fun k f => l1_raws k f hk hu
  unfold raws at hw l1
  have hs12 : sup kind = 1 ∨ sup kind = 2 := by unfold sup; split <;> omega
  rcases hs12 with hs | hs
  · rw [if_pos hs] at hw l1; rw [hs]
    have e1 : x - ((p - 1 + 1) * 65536 + 32768) = u := by omega
    have e2 : x - ((p - 1 + 1) * 65536 + 32768 + 65536) = u - 65536 := by omega
    by_cases h0 : u = 0
    · rw [if_pos h0] at hw l1
      rw [l0_step (k + 9) (by omega) (by simp) (by omega) (by omega) (by omega), l0_end (k + 10) (by omega) (by omega) (by omega), e1]
      simp only [List.nil_append, Int.zero_add, lsum, Int.add_zero] at hw l1 ⊢
      rw [hw]
      exact l1 (k + 4) _
    · rw [if_neg h0] at hw l1
      rw [l0_step (k + 9) (by omega) (by simp) (by omega) (by omega) (by omega), l0_step (k + 8) (by omega) (by simp) (by omega) (by omega) (by omega), l0_end (k + 9) (by omega) (by omega) (by omega), e1, e2]
      simp only [List.nil_append, Int.zero_add, lsum, Int.add_zero, List.cons_append, w_addl] at hw l1 ⊢
      rw [hw]
      exact l1 (k + 3) _
  · rw [if_neg (by omega)] at hw l1; rw [hs]
    have e1 : x - ((p - 2 + 1) * 65536 + 32768) = u + 65536 := by omega
    have e2 : x - ((p - 2 + 1) * 65536 + 32768 + 65536) = u := by omega
    have e3 : x - ((p - 2 + 1) * 65536 + 32768 + 65536 + 65536) = u - 65536 := by omega
    have e4 : x - ((p - 2 + 1) * 65536 + 32768 + 65536 + 65536 + 65536) = u - 131072 := by omega
    by_cases h0 : u = 0
    · rw [if_pos h0] at hw l1
      rw [l0_step (k + 9) (by omega) (by simp) (by omega) (by omega) (by omega), l0_step (k + 8) (by omega) (by simp) (by omega) (by omega) (by omega), l0_step (k + 7) (by omega) (by simp) (by omega) (by omega) (by omega), l0_end (k + 8) (by omega) (by omega) (by omega), e1, e2, e3]
      simp only [List.nil_append, Int.zero_add, lsum, Int.add_zero, List.cons_append, w_addl, Int.add_assoc] at hw l1 ⊢
      rw [hw]
      exact l1 (k + 2) _
    · rw [if_neg h0] at hw l1
      rw [l0_step (k + 9) (by omega) (by simp) (by omega) (by omega) (by omega), l0_step (k + 8) (by omega) (by simp) (by omega) (by omega) (by omega), l0_step (k + 7) (by omega) (by simp) (by omega) (by omega) (by omega), l0_step (k + 6) (by omega) (by simp) (by omega) (by omega) (by omega), l0_end (k + 7) (by omega) (by omega) (by omega), e1, e2, e3, e4]
      simp only [List.nil_append, Int.zero_add, lsum, Int.add_zero, List.cons_append, w_addl, Int.add_assoc] at hw l1 ⊢
      rw [hw]
      exact l1 (k + 1) _
end Go.Proofs.Ytfibpimlbmngoaa.Q
