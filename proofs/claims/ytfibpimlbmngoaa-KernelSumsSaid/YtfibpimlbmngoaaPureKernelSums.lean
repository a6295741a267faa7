/- KernelSums: the weights of Taps have the sum One, before they are normalized a sum from One - 4 to One + 4, and the pixel of the position is among them, for every valid kind and position within the bounds. -/
import Derived.Test.YtfibpimlbmngoaaTaps2
namespace Go.Proofs.Ytfibpimlbmngoaa.Pure
open Go.RowKit Go.Proofs.Ytfibpimlbmngoaa.Q Go.Proofs.YtfibpimlbmngoaaW.PrintWords Go.Proofs.YtfibpimlbmngoaaW.PrintLast
set_option linter.unusedVariables false
set_option linter.unusedSimpArgs false

def tsum (w : List Int) : Nat → Int → Int
  | 0, _ => 0
  | d + 1, i => rd w i + tsum w d (i + 1)
def rsum (kind x f : Int) : Nat → Int → Int
  | 0, _ => 0
  | d + 1, i => Wt kind (x - ((f + i) * 65536 + 32768)) + rsum kind x f d (i + 1)
theorem tsum_drop (w : List Int) (d : Nat) : ∀ i : Int, 0 ≤ i → i + d = w.length → tsum w d i = lsum w - lsum (w.take i.toNat) := by
  induction d with
  | zero => intro i h0 h1; rw [List.take_of_length_le (by omega)]; simp [tsum]
  | succ d ih =>
    intro i h0 h1
    rw [tsum, ih (i + 1) (by omega) (by omega), show (i + 1).toNat = i.toNat + 1 by omega, lsum_take _ _ (by omega)]
    have : rd w i = w.getD i.toNat 0 := rfl
    omega
theorem tsum_all (w : List Int) : tsum w w.length 0 = lsum w := by
  rw [tsum_drop w _ 0 (by omega) (by omega)]; simp [lsum]

theorem loop (kind x f s : Int) (w : List Int) (hx : -1099511627776 ≤ x ∧ x ≤ 1099511627776) (hf : -33554432 ≤ f ∧ f ≤ 33554432) (hw : (w.length : Int) = 2 * s ∨ (w.length : Int) = 2 * s - 1) (hs : 1 ≤ s ∧ s ≤ 2) (hat : f ≤ x / 65536 ∧ x / 65536 < f + w.length) (d : Nat) :
    ∀ (k : Nat) (sum raw i : Int), 0 ≤ i → i + d = w.length → wrap64 sum = sum → wrap64 raw = raw → wrap64 (sum + tsum w d i) = 65536 → 65532 ≤ wrap64 (raw + rsum kind x f d i) → wrap64 (raw + rsum kind x f d i) ≤ 65540 →
    imageeditorlaw13_KernelSums.l0 (k + d + 13) kind x f w s sum raw i = some true := by
  induction d with
  | zero =>
    intro k sum raw i h0 h1 w1 w2 a1 a2 a3
    simp only [tsum, rsum, Int.add_zero, w1, w2] at a1 a2 a3
    simp only [imageeditorlaw13_KernelSums.l0]
    rw [if_neg (by omega), if_pos a1, if_pos a2, if_pos a3, ex_at k, w_in (n := 2 * s) (by omega) (by omega), w_in (n := 2 * s - 1) (by omega) (by omega), w_in (n := f + (w.length : Int)) (by omega) (by omega)]
    simp only [Option.bind_some]
    rw [if_pos hat.1, if_pos hat.2]
    rcases hw with h | h
    · rw [if_pos h]
    · rw [if_neg (by omega), if_pos h]
  | succ d ih =>
    intro k sum raw i h0 h1 w1 w2 a1 a2 a3
    rw [show k + (d + 1) + 13 = k + d + 13 + 1 by omega, imageeditorlaw13_KernelSums.l0]
    rw [if_pos (by omega), if_pos h0, w_in (n := f + i) (by omega) (by omega), w_in (n := (f + i) * 65536) (by omega) (by omega), w_in (n := (f + i) * 65536 + 32768) (by omega) (by omega), w_in (n := x - ((f + i) * 65536 + 32768)) (by omega) (by omega), weight_some (k + d + 11), w_in (n := i + 1) (by omega) (by omega)]
    simp only [Option.bind_some]
    refine ih k _ _ (i + 1) (by omega) (by omega) (w_w _) (w_w _) ?_ ?_ ?_
    · rw [w_addl, ← a1, tsum]; congr 1; omega
    · rw [w_addl, show raw + Wt kind (x - ((f + i) * 65536 + 32768)) + rsum kind x f d (i + 1) = raw + rsum kind x f (d + 1) i by rw [rsum]; omega]; exact a2
    · rw [w_addl, show raw + Wt kind (x - ((f + i) * 65536 + 32768)) + rsum kind x f d (i + 1) = raw + rsum kind x f (d + 1) i by rw [rsum]; omega]; exact a3

theorem rsum_raws {kind x p u : Int} (hx : x = p * 65536 + 32768 + u) : rsum kind x (p - sup kind + 1) (raws kind u).length 0 = lsum (raws kind u) := by
  have hs12 : sup kind = 1 ∨ sup kind = 2 := by unfold sup; split <;> omega
  unfold raws
  rcases hs12 with hs | hs
  · rw [if_pos hs, hs]
    have e1 : x - ((p - 1 + 1 + 0) * 65536 + 32768) = u := by omega
    have e2 : x - ((p - 1 + 1 + (0 + 1)) * 65536 + 32768) = u - 65536 := by omega
    by_cases h0 : u = 0
    · rw [if_pos h0]; simp only [List.length_cons, List.length_nil, rsum, lsum, e1]
    · rw [if_neg h0]; simp only [List.length_cons, List.length_nil, rsum, lsum, e1, e2]
  · rw [if_neg (by omega), hs]
    have e1 : x - ((p - 2 + 1 + 0) * 65536 + 32768) = u + 65536 := by omega
    have e2 : x - ((p - 2 + 1 + (0 + 1)) * 65536 + 32768) = u := by omega
    have e3 : x - ((p - 2 + 1 + (0 + 1 + 1)) * 65536 + 32768) = u - 65536 := by omega
    have e4 : x - ((p - 2 + 1 + (0 + 1 + 1 + 1)) * 65536 + 32768) = u - 131072 := by omega
    by_cases h0 : u = 0
    · rw [if_pos h0]; simp only [List.length_cons, List.length_nil, rsum, lsum, e1, e2, e3]
    · rw [if_neg h0]; simp only [List.length_cons, List.length_nil, rsum, lsum, e1, e2, e3, e4]

theorem raws_two {kind u : Int} : (u ≠ 0 ∧ ((raws kind u).length : Int) = 2 * sup kind) ∨ (u = 0 ∧ ((raws kind u).length : Int) = 2 * sup kind - 1) := by
  have hs12 : sup kind = 1 ∨ sup kind = 2 := by unfold sup; split <;> omega
  unfold raws
  rcases hs12 with hs | hs
  · rw [if_pos hs, hs]; by_cases h0 : u = 0
    · rw [if_pos h0]; right; exact ⟨h0, rfl⟩
    · rw [if_neg h0]; left; exact ⟨h0, rfl⟩
  · rw [if_neg (by omega), hs]; by_cases h0 : u = 0
    · rw [if_pos h0]; right; exact ⟨h0, rfl⟩
    · rw [if_neg h0]; left; exact ⟨h0, rfl⟩

theorem KernelSums : imageeditorlaw13_KernelSums.Pure := by
  intro kind x _ hx
  have hx := wf_bd hx
  refine ⟨18, ?_⟩
  have hout : ∀ t u : Int, imageeditorlaw13_KernelSums.j0 18 t u true = some true := by
    intro t u; simp only [imageeditorlaw13_KernelSums.j0, if_true]; rw [ex_at 5]; rfl
  unfold imageeditorlaw13_KernelSums.f
  rw [rvalid_some]; simp only [Option.bind_some]
  by_cases hk : 0 ≤ kind ∧ kind ≤ 4
  · rw [if_pos (by simpa using hk)]
    by_cases h1 : x < -1099511627776
    · rw [if_pos h1, hout]
    by_cases h2 : x > 1099511627776
    · rw [if_neg h1, show decide (x > 1099511627776) = true by simpa using h2, hout]
    rw [if_neg h1, show decide (x > 1099511627776) = false by simpa using h2]
    simp only [imageeditorlaw13_KernelSums.j0]
    rw [if_neg (by decide), taps_some 5 x hk, support_some, if_pos hk]
    simp only [Option.bind_some]
    have hs := sup12 kind
    have hu : 0 ≤ uu x ∧ uu x < 65536 := by unfold uu; omega
    have hX : lim x = x := by unfold lim; omega
    have hxp : x = pp x * 65536 + 32768 + uu x := by unfold pp uu; rw [hX]; omega
    have hp : -33554430 ≤ pp x ∧ pp x ≤ 33554430 := by unfold pp; rw [hX]; omega
    have hl := @raws_len kind (uu x)
    have hn := nw_len kind (uu x)
    have h2 := @raws_two kind (uu x)
    have hsum := raws_sum hk hu
    rw [show (17 : Nat) = (4 - (nw kind (uu x)).length) + (nw kind (uu x)).length + 13 by omega]
    refine loop kind x _ _ _ (by omega) (by omega) (by omega) hs (by omega) _ _ 0 0 0 (by omega) (by omega) (w_in (by omega) (by omega)) (w_in (by omega) (by omega)) ?_ ?_ ?_
    · rw [tsum_all, Int.zero_add]; exact nw_sum _ _
    · rw [hn, rsum_raws hxp, Int.zero_add, w_lsum hk hu]; exact hsum.1
    · rw [hn, rsum_raws hxp, Int.zero_add, w_lsum hk hu]; exact hsum.2
  · rw [if_neg (by simpa using hk), hout]
end Go.Proofs.Ytfibpimlbmngoaa.Pure
