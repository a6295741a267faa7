/- The sine and the cosine of any angle: the program's are the reference's. -/
import Derived.Test.YtgciphmmfbgkeaaAff
import Derived.Test.YtgciphmmfbgkeaaQ12r
namespace Go.Proofs.Ytgciphmmfbgkeaa.Q
open Go.RowKit Go.Proofs.YtgciphmmfbgkeaaW.PrintWords Go.Proofs.YtgciphmmfbgkeaaW.PrintLast Go.Proofs.YtgciphmmfbgkeaaW.PrintMore Go.Proofs.Ytgciphmmfbgkeaa.Sin0
set_option linter.unusedVariables false
set_option linter.unusedSimpArgs false

theorem rmove_some (x y : Int) : imageeditorref12_Move.f x y = some (65536, 0, 0, 65536, min 1048576 (max x (-1048576)) * 65536, min 1048576 (max y (-1048576)) * 65536) := by
  unfold imageeditorref12_Move.f imageeditorref12_Same.f
  rw [rclamp_some, rclamp_some]
  simp only [Option.bind_some]
  rw [w_in (by omega) (by omega), w_in (by omega) (by omega)]
theorem rscale_some (x y : Int) : imageeditorref12_Scale.f x y = some (coef x, 0, 0, coef y, 0, 0) := by
  unfold imageeditorref12_Scale.f; simp only [rcoef_some, Option.bind_some]
theorem and65535 (n : Int) : Go.bits .and .i64 n 65535 = n % 65536 := by
  simp only [bits]
  rw [IntKind.wrap_i64]
  have h : (BitVec.ofInt IntKind.i64.bits n &&& BitVec.ofInt IntKind.i64.bits 65535).toNat = (n % 65536).toNat := by
    rw [BitVec.toNat_and]
    have h1 : (BitVec.ofInt IntKind.i64.bits 65535).toNat = 2 ^ 16 - 1 := by decide
    rw [h1, Nat.and_two_pow_sub_one_eq_mod, BitVec.toNat_ofInt]
    have : ((2 ^ IntKind.i64.bits : Nat) : Int) = 18446744073709551616 := by decide
    rw [this]
    omega
  rw [h]
  omega

def Qt (u : Int) : Option Int := if 0 ≤ u then (if u < 16384 then some (wrap64 (sn (u / 256).toNat + dv ((sn (u / 256 + 1).toNat - sn (u / 256).toNat) * (u % 256)) 256)) else if u = 16384 then some 65536 else none) else none
theorem sn_bd (i : Nat) : 0 ≤ sn i ∧ sn i ≤ 65536 := by
  unfold sn
  by_cases h : i < sines.length
  · have hall : ∀ x ∈ sines, 0 ≤ x ∧ x ≤ 65536 := by decide
    rw [List.getD_eq_getElem?_getD, List.getElem?_eq_getElem h]
    exact hall _ (List.getElem_mem h)
  · rw [List.getD_eq_getElem?_getD, List.getElem?_eq_none (by omega)]; simp
theorem quarter_some (k : Nat) (u : Int) : num_quarter.f (k + 1) u = Qt u := by
  unfold num_quarter.f Qt
  by_cases h0 : 0 ≤ u
  · rw [if_pos h0, if_pos h0]
    by_cases h1 : u < 16384
    · rw [if_pos h1, if_pos h1]
      have b1 := sn_bd (u / 256 + 1).toNat; have b2 := sn_bd (u / 256).toNat
      have p := mul_bd (A := 65536) (B := 256) (a := sn (u / 256 + 1).toNat - sn (u / 256).toNat) (b := u % 256) (by omega) (by omega)
      rw [w_in (n := sn (u / 256 + 1).toNat - sn (u / 256).toNat) (by omega) (by omega), w_in (n := (sn (u / 256 + 1).toNat - sn (u / 256).toNat) * (u % 256)) (by omega) (by omega), div_pos k _ _ (by omega) (by omega) (by omega)]
      rfl
    · rw [if_neg h1, if_neg h1]
  · rw [if_neg h0, if_neg h0]
theorem rquarter_some (k : Nat) (u : Int) : imageeditorref01_quarter.f (k + 1) u = Qt u := by
  unfold imageeditorref01_quarter.f Qt
  by_cases h0 : 0 ≤ u
  · rw [if_pos h0, if_pos h0]
    by_cases h1 : u < 16384
    · rw [if_pos h1, if_pos h1]
      have b1 := sn_bd (u / 256 + 1).toNat; have b2 := sn_bd (u / 256).toNat
      have p := mul_bd (A := 65536) (B := 256) (a := sn (u / 256 + 1).toNat - sn (u / 256).toNat) (b := u % 256) (by omega) (by omega)
      rw [show u - 256 * (u / 256) = u % 256 by omega, w_in (n := sn (u / 256 + 1).toNat - sn (u / 256).toNat) (by omega) (by omega), w_in (n := (sn (u / 256 + 1).toNat - sn (u / 256).toNat) * (u % 256)) (by omega) (by omega), rdiv_pos k _ _ (by omega) (by omega) (by omega)]
      rfl
    · rw [if_neg h1, if_neg h1]
  · rw [if_neg h0, if_neg h0]
theorem qt_some {u : Int} (h : 0 ≤ u ∧ u ≤ 16384) : ∃ r, Qt u = some r := by
  unfold Qt
  rw [if_pos h.1]
  by_cases h1 : u < 16384
  · rw [if_pos h1]; exact ⟨_, rfl⟩
  · rw [if_neg h1, if_pos (by omega)]; exact ⟨_, rfl⟩

theorem sine_same (k : Nat) {a : Int} (h : 0 ≤ a ∧ a < 65536) : ∃ r, num_sine.f (k + 1) a = some r ∧ imageeditorref01_sine.f (k + 1) a = some r := by
  have ed : Int.tdiv a 16384 = a / 16384 := Int.tdiv_eq_ediv_of_nonneg h.1
  have em : Int.tmod a 16384 = a % 16384 := Int.tmod_eq_emod_of_nonneg h.1
  have e1 : wrap64 (a - wrap64 (16384 * wrap64 (a / 16384))) = a % 16384 := by
    rw [w_in (n := a / 16384) (by omega) (by omega), w_in (n := 16384 * (a / 16384)) (by omega) (by omega), w_in (by omega) (by omega)]; omega
  unfold num_sine.f imageeditorref01_sine.f
  rw [ed, em, e1, w_in (n := a / 16384) (by omega) (by omega), w_in (n := 16384 - a % 16384) (by omega) (by omega)]
  simp only [quarter_some, rquarter_some]
  obtain ⟨r1, h1⟩ := qt_some (u := a % 16384) (by omega)
  obtain ⟨r2, h2⟩ := qt_some (u := 16384 - a % 16384) (by omega)
  rw [h1, h2]
  simp only [Option.bind_some]
  by_cases c0 : a / 16384 = 0
  · rw [if_pos c0]; exact ⟨_, rfl, rfl⟩
  rw [if_neg c0]
  by_cases c1 : a / 16384 = 1
  · rw [if_pos c1]; exact ⟨_, rfl, rfl⟩
  rw [if_neg c1]
  by_cases c2 : a / 16384 = 2
  · rw [if_pos c2]; exact ⟨_, rfl, rfl⟩
  rw [if_neg c2]
  exact ⟨_, rfl, rfl⟩

theorem turn_same (k : Nat) (a : Int) (ha : -9223372036854775808 ≤ a ∧ a ≤ 9223372036854775807) : ∃ s c, num_Turn.f (k + 1) a = some (s, c) ∧ imageeditorref01_Turn.f (k + 1) a = some (s, c) := by
  obtain ⟨s, hs1, hs2⟩ := sine_same k (a := a % 65536) (by omega)
  obtain ⟨c, hc1, hc2⟩ := sine_same k (a := (a % 65536 + 16384) % 65536) (by omega)
  refine ⟨s, c, ?_, ?_⟩
  · unfold num_Turn.f
    rw [and65535, hs1, w_in (n := a % 65536 + 16384) (by omega) (by omega), and65535, hc1]; rfl
  · unfold imageeditorref01_Turn.f
    by_cases h : Int.tmod a 65536 < 0
    · have em : Int.tmod a 65536 + 65536 = a % 65536 := by
        rw [Int.tmod_eq_emod] at h ⊢; split at h <;> rename_i hc <;> (split <;> omega)
      rw [if_pos h, w_in (n := Int.tmod a 65536 + 65536) (by omega) (by omega), em, hs2, w_in (n := a % 65536 + 16384) (by omega) (by omega), Int.tmod_eq_emod_of_nonneg (by omega), hc2]; rfl
    · have em : Int.tmod a 65536 = a % 65536 := by
        rw [Int.tmod_eq_emod] at h ⊢; split at h <;> rename_i hc <;> (split <;> omega)
      rw [if_neg h, em, hs2, w_in (n := a % 65536 + 16384) (by omega) (by omega), Int.tmod_eq_emod_of_nonneg (by omega), hc2]; rfl
theorem rotate_same (k : Nat) (a : Int) (ha : -9223372036854775808 ≤ a ∧ a ≤ 9223372036854775807) : ∃ r, affine_Rotate.f (k + 1) a = some r ∧ imageeditorref12_Rotate.f (k + 1) a = some r := by
  obtain ⟨s, c, h1, h2⟩ := turn_same k a ha
  unfold affine_Rotate.f imageeditorref12_Rotate.f
  rw [h1, h2]
  exact ⟨_, rfl, rfl⟩
end Go.Proofs.Ytgciphmmfbgkeaa.Q
