/- Taps as a whole: first pixel and weights of any kernel at any position, of the program and of the reference; their sum. -/
import Derived.Test.YtfibpimlbmngoaaTaps
namespace Go.Proofs.Ytfibpimlbmngoaa.Q
open Go.RowKit Go.Proofs.YtfibpimlbmngoaaW.PrintWords Go.Proofs.YtfibpimlbmngoaaW.PrintLast Go.Proofs.YtfibpimlbmngoaaW.PrintMore
set_option linter.unusedVariables false
set_option linter.unusedSimpArgs false

theorem rl0_raws (k : Nat) {kind x p u : Int} (hk : 0 ≤ kind ∧ kind ≤ 4) (hu : 0 ≤ u ∧ u < 65536) (hx : x = p * 65536 + 32768 + u) (hb : -1099511627776 ≤ x ∧ x ≤ 1099511627776) :
    imageeditorref13_Taps.l0 (k + 12) kind x (sup kind * 65536) (p - sup kind + 1) [] 0 (p - sup kind + 1) = some (p - sup kind + 1, nw kind u) := by
  have hw := w_lsum hk hu
  have l1 := fun k f => rl1_raws k f hk hu
  unfold raws at hw l1
  have hs12 : sup kind = 1 ∨ sup kind = 2 := by unfold sup; split <;> omega
  rcases hs12 with hs | hs
  · rw [if_pos hs] at hw l1; rw [hs]
    have e1 : x - ((p - 1 + 1) * 65536 + 32768) = u := by omega
    have e2 : x - ((p - 1 + 1 + 1) * 65536 + 32768) = u - 65536 := by omega
    by_cases h0 : u = 0
    · rw [if_pos h0] at hw l1
      rw [rl0_step (k + 9) (by omega) (by simp) (by omega) (by omega) (by omega), rl0_end (k + 10) (by omega) (by omega) (by omega) (by omega), e1]
      simp only [List.nil_append, Int.zero_add, lsum, Int.add_zero] at hw l1 ⊢
      rw [hw]
      exact l1 (k + 4) _
    · rw [if_neg h0] at hw l1
      rw [rl0_step (k + 9) (by omega) (by simp) (by omega) (by omega) (by omega), rl0_step (k + 8) (by omega) (by simp) (by omega) (by omega) (by omega), rl0_end (k + 9) (by omega) (by omega) (by omega) (by omega), e1, e2]
      simp only [List.nil_append, Int.zero_add, lsum, Int.add_zero, List.cons_append, w_addl] at hw l1 ⊢
      rw [hw]
      exact l1 (k + 3) _
  · rw [if_neg (by omega)] at hw l1; rw [hs]
    have e1 : x - ((p - 2 + 1) * 65536 + 32768) = u + 65536 := by omega
    have e2 : x - ((p - 2 + 1 + 1) * 65536 + 32768) = u := by omega
    have e3 : x - ((p - 2 + 1 + 1 + 1) * 65536 + 32768) = u - 65536 := by omega
    have e4 : x - ((p - 2 + 1 + 1 + 1 + 1) * 65536 + 32768) = u - 131072 := by omega
    by_cases h0 : u = 0
    · rw [if_pos h0] at hw l1
      rw [rl0_step (k + 9) (by omega) (by simp) (by omega) (by omega) (by omega), rl0_step (k + 8) (by omega) (by simp) (by omega) (by omega) (by omega), rl0_step (k + 7) (by omega) (by simp) (by omega) (by omega) (by omega), rl0_end (k + 8) (by omega) (by omega) (by omega) (by omega), e1, e2, e3]
      simp only [List.nil_append, Int.zero_add, lsum, Int.add_zero, List.cons_append, w_addl, Int.add_assoc] at hw l1 ⊢
      rw [hw]
      exact l1 (k + 2) _
    · rw [if_neg h0] at hw l1
      rw [rl0_step (k + 9) (by omega) (by simp) (by omega) (by omega) (by omega), rl0_step (k + 8) (by omega) (by simp) (by omega) (by omega) (by omega), rl0_step (k + 7) (by omega) (by simp) (by omega) (by omega) (by omega), rl0_step (k + 6) (by omega) (by simp) (by omega) (by omega) (by omega), rl0_end (k + 7) (by omega) (by omega) (by omega) (by omega), e1, e2, e3, e4]
      simp only [List.nil_append, Int.zero_add, lsum, Int.add_zero, List.cons_append, w_addl, Int.add_assoc] at hw l1 ⊢
      rw [hw]
      exact l1 (k + 1) _

/-- a position, limited; the pixel and the rest that decide the taps -/
def lim (x : Int) : Int := min 1099511627776 (max x (-1099511627776))
def pp (x : Int) : Int := (lim x - 32768) / 65536
def uu (x : Int) : Int := (lim x - 32768) % 65536

theorem sup12 (kind : Int) : 1 ≤ sup kind ∧ sup kind ≤ 2 := by unfold sup; split <;> omega

theorem taps_some (k : Nat) {kind : Int} (x : Int) (hk : 0 ≤ kind ∧ kind ≤ 4) : kernel_Taps.f (k + 12) kind x = some (pp x - sup kind + 1, nw kind (uu x)) := by
  have hs := sup12 kind
  have hX : -1099511627776 ≤ lim x ∧ lim x ≤ 1099511627776 := by unfold lim; omega
  unfold kernel_Taps.f
  rw [valid_some, clamp_some, support_some]
  simp only [Option.bind_some]
  rw [if_pos (by simpa using hk), if_pos hk]
  show ((num_Floor.f (wrap64 (wrap64 (lim x - wrap64 (sup kind * 65536)) - 32768)) 65536).bind fun t121 => kernel_Taps.l0 (k + 12) kind (lim x) (wrap64 (t121 + 1)) [] (wrap64 (sup kind * 65536)) 0 (wrap64 (wrap64 (wrap64 (t121 + 1) * 65536) + 32768))) = _
  rw [w_in (n := sup kind * 65536) (by omega) (by omega), w_in (n := lim x - sup kind * 65536) (by omega) (by omega), w_in (n := lim x - sup kind * 65536 - 32768) (by omega) (by omega), floor_pos _ _ (by omega) (by omega) (by omega)]
  simp only [Option.bind_some]
  have e : (lim x - sup kind * 65536 - 32768) / 65536 = pp x - sup kind := by unfold pp; omega
  have hp : -33554432 ≤ pp x ∧ pp x ≤ 33554432 := by unfold pp; omega
  rw [e, w_in (n := pp x - sup kind + 1) (by omega) (by omega), w_in (n := (pp x - sup kind + 1) * 65536) (by omega) (by omega), w_in (n := (pp x - sup kind + 1) * 65536 + 32768) (by omega) (by omega)]
  exact l0_raws k hk (by unfold uu; omega) (by unfold pp uu; omega) hX
theorem taps_bad (k : Nat) {kind : Int} (x : Int) (hk : ¬ (0 ≤ kind ∧ kind ≤ 4)) : kernel_Taps.f k kind x = some (0, []) := by
  unfold kernel_Taps.f
  rw [valid_some]; simp only [Option.bind_some]
  rw [if_neg (by simpa using hk)]
theorem rtaps_some (k : Nat) {kind : Int} (x : Int) (hk : 0 ≤ kind ∧ kind ≤ 4) : imageeditorref13_Taps.f (k + 12) kind x = some (pp x - sup kind + 1, nw kind (uu x)) := by
  have hs := sup12 kind
  have hX : -1099511627776 ≤ lim x ∧ lim x ≤ 1099511627776 := by unfold lim; omega
  unfold imageeditorref13_Taps.f
  rw [rvalid_some, rclamp_some, rsupport_some (k + 11)]
  simp only [Option.bind_some]
  rw [if_pos (by simpa using hk), if_pos hk]
  show ((imageeditorref01_Floor.f (k + 12) (wrap64 (wrap64 (lim x - wrap64 (sup kind * 65536)) - 32768)) 65536).bind fun t164 => imageeditorref13_Taps.l0 (k + 12) kind (lim x) (wrap64 (sup kind * 65536)) (wrap64 (t164 + 1)) [] 0 (wrap64 (t164 + 1))) = _
  rw [w_in (n := sup kind * 65536) (by omega) (by omega), w_in (n := lim x - sup kind * 65536) (by omega) (by omega), w_in (n := lim x - sup kind * 65536 - 32768) (by omega) (by omega), rfloor_pos (k + 11) _ _ (by omega) (by omega) (by omega)]
  simp only [Option.bind_some]
  have e : (lim x - sup kind * 65536 - 32768) / 65536 = pp x - sup kind := by unfold pp; omega
  have hp : -33554432 ≤ pp x ∧ pp x ≤ 33554432 := by unfold pp; omega
  rw [e, w_in (n := pp x - sup kind + 1) (by omega) (by omega)]
  exact rl0_raws k hk (by unfold uu; omega) (by unfold pp uu; omega) hX
theorem rtaps_bad (k : Nat) {kind : Int} (x : Int) (hk : ¬ (0 ≤ kind ∧ kind ≤ 4)) : imageeditorref13_Taps.f k kind x = some (0, []) := by
  unfold imageeditorref13_Taps.f
  rw [rvalid_some]; simp only [Option.bind_some]
  rw [if_neg (by simpa using hk)]

theorem fin_len (sum : Int) (d : Nat) : ∀ ws rest best i, (fin sum d ws rest best i).length = ws.length := by
  induction d with
  | zero => intro ws rest best i; simp [fin]
  | succ d ih => intro ws rest best i; rw [fin, ih, List.length_set]
theorem nw_len (kind u : Int) : (nw kind u).length = (raws kind u).length := fin_len _ _ _ _ _ _

/-! a list is equal to itself -/
theorem same_l (l : List Int) (hl : l.length ≤ 1000) (d : Nat) : ∀ (k : Nat) (i : Int), 0 ≤ i → i + d = l.length → imageeditorlaw13_same.l0 (k + d + 1) l l i = some true := by
  induction d with
  | zero => intro k i h0 h1; simp only [imageeditorlaw13_same.l0]; rw [if_neg (by omega)]
  | succ d ih =>
    intro k i h0 h1
    rw [show k + (d + 1) + 1 = k + d + 1 + 1 by omega, imageeditorlaw13_same.l0]
    rw [if_pos (by omega), if_pos h0, if_pos (by omega), if_pos rfl, w_in (by omega) (by omega)]
    exact ih k (i + 1) (by omega) (by omega)
theorem same_self (k : Nat) (l : List Int) (hl : l.length ≤ 4) : imageeditorlaw13_same.f (k + 5) l l = some true := by
  unfold imageeditorlaw13_same.f
  rw [if_pos rfl, show k + 5 = (k + (4 - l.length)) + l.length + 1 by omega]
  exact same_l l (by omega) l.length _ 0 (by omega) (by omega)

/-! the sum -/
theorem lsum_set (v : Int) : ∀ (l : List Int) (n : Nat), n < l.length → lsum (l.set n v) = lsum l - l.getD n 0 + v
  | [], n, h => by simp at h
  | a :: l, 0, h => by simp [lsum]; omega
  | a :: l, n + 1, h => by
    have := lsum_set v l n (by simpa using h)
    simp only [List.set_cons_succ, lsum, List.getD_cons_succ]; omega
theorem lsum_take (n : Nat) : ∀ (l : List Int), n < l.length → lsum (l.take (n + 1)) = lsum (l.take n) + l.getD n 0 := by
  induction n with
  | zero => intro l h; cases l with
    | nil => simp at h
    | cons a l => simp [lsum]
  | succ n ih => intro l h; cases l with
    | nil => simp at h
    | cons a l =>
      have := ih l (by simpa using h)
      simp only [List.take_succ_cons, lsum, List.getD_cons_succ]; omega
theorem take_set (v : Int) (n : Nat) : ∀ (l : List Int), (l.set n v).take n = l.take n := by
  induction n with
  | zero => intro l; simp
  | succ n ih => intro l; cases l with
    | nil => simp
    | cons a l => simp only [List.set_cons_succ, List.take_succ_cons, ih l]

theorem fin_sum (sum : Int) (d : Nat) : ∀ (ws : List Int) (rest best i : Int), 0 ≤ best → best < ws.length → 0 ≤ i → i + d = ws.length →
    wrap64 (lsum (ws.take i.toNat) + rest) = 65536 → wrap64 (lsum (fin sum d ws rest best i)) = 65536 := by
  induction d with
  | zero =>
    intro ws rest best i hb0 hb1 hi0 hi h
    rw [fin, lsum_set _ _ _ (by omega), show ws.getD best.toNat 0 = rd ws best from rfl]
    rw [List.take_of_length_le (by omega)] at h
    rw [w_addr, show lsum ws - rd ws best + (rd ws best + rest) = lsum ws + rest by omega]; exact h
  | succ d ih =>
    intro ws rest best i hb0 hb1 hi0 hi h
    rw [fin]
    generalize dv (rd ws i * 65536) sum = v
    refine ih _ _ _ _ (by split <;> omega) (by rw [List.length_set]; split <;> omega) (by omega) (by rw [List.length_set]; omega) ?_
    rw [show (i + 1).toNat = i.toNat + 1 by omega, lsum_take _ _ (by rw [List.length_set]; omega), take_set, w_addr]
    rw [show (ws.set i.toNat v).getD i.toNat 0 = v from rd_set v hi0 (by omega)]
    rw [show lsum (ws.take i.toNat) + v + (rest - v) = lsum (ws.take i.toNat) + rest by omega]; exact h
theorem nw_sum (kind u : Int) : wrap64 (lsum (nw kind u)) = 65536 := by
  have hl := @raws_len kind u
  exact fin_sum _ _ _ _ _ _ (by omega) (by omega) (by omega) (by omega) (by simp only [Int.toNat_zero, List.take_zero, lsum, Int.zero_add]; exact w_in (by omega) (by omega))
end Go.Proofs.Ytfibpimlbmngoaa.Q
