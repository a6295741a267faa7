/- The length of a vector: the program's is the reference's, and it depends on the sum of the squares alone. -/
import Derived.Test.YtmlcobnidfkhfaaQ5
import Derived.Test.YtmlcobnidfkhfaaAlong
namespace Go.Proofs.Ytmlcobnidfkhfaa.Q
open Go.RowKit Go.Proofs.YtmlcobnidfkhfaaW.PrintWords Go.Proofs.YtmlcobnidfkhfaaW.PrintLast Go.Proofs.YtmlcobnidfkhfaaW.PrintMore
set_option linter.unusedVariables false
set_option linter.unusedSimpArgs false

theorem ofInt_nat {n : Int} (h : 0 ≤ n ∧ n < 18446744073709551616) : (BitVec.ofInt IntKind.u64.bits n).toNat = n.toNat := by
  rw [BitVec.toNat_ofInt]
  have : ((2 ^ IntKind.u64.bits : Nat) : Int) = 18446744073709551616 := by decide
  rw [this, Int.emod_eq_of_lt h.1 h.2]
theorem and_low {n : Int} (h : 0 ≤ n ∧ n < 18446744073709551616) : Go.bits .and .u64 n 4294967295 = n % 4294967296 := by
  simp only [bits]
  have e : (BitVec.ofInt IntKind.u64.bits n &&& BitVec.ofInt IntKind.u64.bits 4294967295).toNat = (n % 4294967296).toNat := by
    rw [BitVec.toNat_and, ofInt_nat h]
    have h1 : (BitVec.ofInt IntKind.u64.bits 4294967295).toNat = 2 ^ 32 - 1 := by decide
    rw [h1, Nat.and_two_pow_sub_one_eq_mod]
    omega
  rw [e]
  rw [u_in (by omega) (by omega)]
  omega
/-- or of two numbers -/
theorem or_nat {a b : Int} (ha : 0 ≤ a ∧ a < 18446744073709551616) (hb : 0 ≤ b ∧ b < 18446744073709551616) : Go.bits .or .u64 a b = ((a.toNat ||| b.toNat : Nat) : Int) := by
  simp only [bits]
  have e : (BitVec.ofInt IntKind.u64.bits a ||| BitVec.ofInt IntKind.u64.bits b).toNat = a.toNat ||| b.toNat := by
    rw [BitVec.toNat_or, ofInt_nat ha, ofInt_nat hb]
  have l : a.toNat ||| b.toNat < 2 ^ 64 := Nat.or_lt_two_pow (by omega) (by omega)
  rw [e, u_in (by omega) (by omega)]

theorem u_mod (n : Int) : IntKind.u64.wrap n = n % 18446744073709551616 := rfl
/-- or of a multiple of 2^32 and a number below it is their sum -/
theorem or_disj {a b : Int} (ha : 0 ≤ a ∧ a < 4294967296) (hb : 0 ≤ b ∧ b < 4294967296) : Go.bits .or .u64 (a * 4294967296) b = a * 4294967296 + b := by
  rw [or_nat (by omega) (by omega)]
  have e1 : (a * 4294967296).toNat = 2 ^ 32 * a.toNat := by omega
  have e2 : 2 ^ 32 * a.toNat ||| b.toNat = 2 ^ 32 * a.toNat + b.toNat := (Nat.two_pow_add_eq_or_of_lt (by omega) a.toNat).symm
  rw [e1, e2]
  omega

/-- the two words of a product -/
theorem times_some {a b : Int} (ha : 0 ≤ a ∧ a < 18446744073709551616) (hb : 0 ≤ b ∧ b < 18446744073709551616) : num_times.f a b = some (a * b / 18446744073709551616, a * b % 18446744073709551616) := by
  have h1 : 0 ≤ a / 4294967296 ∧ a / 4294967296 ≤ 4294967295 := by omega
  have h2 : 0 ≤ b / 4294967296 ∧ b / 4294967296 ≤ 4294967295 := by omega
  have h3 : 0 ≤ a % 4294967296 ∧ a % 4294967296 ≤ 4294967295 := by omega
  have h4 : 0 ≤ b % 4294967296 ∧ b % 4294967296 ≤ 4294967295 := by omega
  have p0 := mul_bd (A := 4294967295) (B := 4294967295) (a := a % 4294967296) (b := b % 4294967296) (by omega) (by omega)
  have p1 := mul_bd (A := 4294967295) (B := 4294967295) (a := a / 4294967296) (b := b % 4294967296) (by omega) (by omega)
  have p2 := mul_bd (A := 4294967295) (B := 4294967295) (a := a % 4294967296) (b := b / 4294967296) (by omega) (by omega)
  have p3 := mul_bd (A := 4294967295) (B := 4294967295) (a := a / 4294967296) (b := b / 4294967296) (by omega) (by omega)
  have n0 : 0 ≤ a % 4294967296 * (b % 4294967296) := Int.mul_nonneg h3.1 h4.1
  have n1 : 0 ≤ a / 4294967296 * (b % 4294967296) := Int.mul_nonneg h1.1 h4.1
  have n2 : 0 ≤ a % 4294967296 * (b / 4294967296) := Int.mul_nonneg h3.1 h2.1
  have n3 : 0 ≤ a / 4294967296 * (b / 4294967296) := Int.mul_nonneg h1.1 h2.1
  have ea : a = a / 4294967296 * 4294967296 + a % 4294967296 := by omega
  have eb : b = b / 4294967296 * 4294967296 + b % 4294967296 := by omega
  have id : a * b = a / 4294967296 * (b / 4294967296) * 18446744073709551616 + (a / 4294967296 * (b % 4294967296) + a % 4294967296 * (b / 4294967296)) * 4294967296 + a % 4294967296 * (b % 4294967296) := by
    generalize a / 4294967296 = x at *
    generalize a % 4294967296 = y at *
    generalize b / 4294967296 = z at *
    generalize b % 4294967296 = t at *
    rw [ea, eb]; grind
  unfold num_times.f
  rw [and_low ha, and_low hb]
  generalize a / 4294967296 * (b / 4294967296) = P3 at *
  generalize a / 4294967296 * (b % 4294967296) = P1 at *
  generalize a % 4294967296 * (b / 4294967296) = P2 at *
  generalize a % 4294967296 * (b % 4294967296) = P0 at *
  rw [u_in (n := P0) (by omega) (by omega), u_in (n := P3) (by omega) (by omega), u_in (n := P1) (by omega) (by omega), u_in (n := P2) (by omega) (by omega), u_in (n := P1 + P0 / 4294967296) (by omega) (by omega)]
  rw [and_low (n := P1 + P0 / 4294967296) (by omega), and_low (n := P0) (by omega)]
  rw [u_in (n := P2 + (P1 + P0 / 4294967296) % 4294967296) (by omega) (by omega), u_in (n := P3 + (P1 + P0 / 4294967296) / 4294967296) (by omega) (by omega), u_in (n := P3 + (P1 + P0 / 4294967296) / 4294967296 + (P2 + (P1 + P0 / 4294967296) % 4294967296) / 4294967296) (by omega) (by omega)]
  rw [u_mod, show (P2 + (P1 + P0 / 4294967296) % 4294967296) * 4294967296 % 18446744073709551616 = (P2 + (P1 + P0 / 4294967296) % 4294967296) % 4294967296 * 4294967296 by omega, or_disj (by omega) (by omega)]
  rw [id]
  congr 2 <;> omega
/-- the reference's -/
theorem product_some {a b : Int} (ha : 0 ≤ a ∧ a < 18446744073709551616) (hb : 0 ≤ b ∧ b < 18446744073709551616) : imageeditorref01_Product.f a b = some (a * b / 18446744073709551616, a * b % 18446744073709551616) := by
  have h1 : 0 ≤ a / 4294967296 ∧ a / 4294967296 ≤ 4294967295 := by omega
  have h2 : 0 ≤ b / 4294967296 ∧ b / 4294967296 ≤ 4294967295 := by omega
  have h3 : 0 ≤ a % 4294967296 ∧ a % 4294967296 ≤ 4294967295 := by omega
  have h4 : 0 ≤ b % 4294967296 ∧ b % 4294967296 ≤ 4294967295 := by omega
  have p0 := mul_bd (A := 4294967295) (B := 4294967295) (a := a % 4294967296) (b := b % 4294967296) (by omega) (by omega)
  have p1 := mul_bd (A := 4294967295) (B := 4294967295) (a := a / 4294967296) (b := b % 4294967296) (by omega) (by omega)
  have p2 := mul_bd (A := 4294967295) (B := 4294967295) (a := a % 4294967296) (b := b / 4294967296) (by omega) (by omega)
  have p3 := mul_bd (A := 4294967295) (B := 4294967295) (a := a / 4294967296) (b := b / 4294967296) (by omega) (by omega)
  have n0 : 0 ≤ a % 4294967296 * (b % 4294967296) := Int.mul_nonneg h3.1 h4.1
  have n1 : 0 ≤ a / 4294967296 * (b % 4294967296) := Int.mul_nonneg h1.1 h4.1
  have n2 : 0 ≤ a % 4294967296 * (b / 4294967296) := Int.mul_nonneg h3.1 h2.1
  have n3 : 0 ≤ a / 4294967296 * (b / 4294967296) := Int.mul_nonneg h1.1 h2.1
  have ea : a = a / 4294967296 * 4294967296 + a % 4294967296 := by omega
  have eb : b = b / 4294967296 * 4294967296 + b % 4294967296 := by omega
  have id : a * b = a / 4294967296 * (b / 4294967296) * 18446744073709551616 + (a / 4294967296 * (b % 4294967296) + a % 4294967296 * (b / 4294967296)) * 4294967296 + a % 4294967296 * (b % 4294967296) := by
    generalize a / 4294967296 = x at *
    generalize a % 4294967296 = y at *
    generalize b / 4294967296 = z at *
    generalize b % 4294967296 = t at *
    rw [ea, eb]; grind
  unfold imageeditorref01_Product.f
  rw [and_low ha, and_low hb]
  generalize a / 4294967296 * (b / 4294967296) = P3 at *
  generalize a / 4294967296 * (b % 4294967296) = P1 at *
  generalize a % 4294967296 * (b / 4294967296) = P2 at *
  generalize a % 4294967296 * (b % 4294967296) = P0 at *
  rw [u_in (n := P0) (by omega) (by omega), u_in (n := P3) (by omega) (by omega), u_in (n := P1) (by omega) (by omega), u_in (n := P2) (by omega) (by omega), u_in (n := P1 + P0 / 4294967296) (by omega) (by omega)]
  rw [and_low (n := P1 + P0 / 4294967296) (by omega)]
  rw [u_in (n := P2 + (P1 + P0 / 4294967296) % 4294967296) (by omega) (by omega), u_in (n := P3 + (P1 + P0 / 4294967296) / 4294967296) (by omega) (by omega), u_in (n := P3 + (P1 + P0 / 4294967296) / 4294967296 + (P2 + (P1 + P0 / 4294967296) % 4294967296) / 4294967296) (by omega) (by omega)]
  rw [u_mod, id]
  congr 2; omega

theorem sq_small {r N : Int} (h0 : 0 ≤ r) (h : r * r ≤ N) (hN : N < 4611686018427387904) : r < 2147483648 := by
  refine Int.not_le.mp fun c => ?_
  have := Int.mul_le_mul c c (by omega) h0
  omega
theorem or_bd {a b : Int} (ha : 0 ≤ a ∧ a < 18446744073709551616) (hb : 0 ≤ b ∧ b < 18446744073709551616) : 0 ≤ Go.bits .or .u64 a b ∧ Go.bits .or .u64 a b < 18446744073709551616 := by
  rw [or_nat ha hb]
  have l : a.toNat ||| b.toNat < 2 ^ 64 := Nat.or_lt_two_pow (by omega) (by omega)
  omega
def pw : Nat → Int
  | 0 => 1
  | e + 1 => 2 * pw e
theorem pw_bd {e : Nat} (h : e ≤ 62) : 0 < pw e ∧ pw e ≤ 4611686018427387904 := (show ∀ e : Nat, e < 63 → 0 < pw e ∧ pw e ≤ 4611686018427387904 by decide) e (by omega)
/-- the root, bit by bit: the program's and the reference's loops tell the same -/
theorem root_l {N : Int} (hN0 : 0 ≤ N) (hN : N < 4611686018427387904) (e : Nat) : ∀ (k : Nat) (r bit : Int), bit = pw e → e ≤ 63 → 0 ≤ r → r * r ≤ N →
    ∃ R, num_root.l0 (k + e + 2) 0 N r bit = some R ∧ imageeditorref01_Hypot.l0 (k + e + 2) N 0 r bit = some R ∧ 0 ≤ R ∧ R * R ≤ N := by
  have fin : ∀ (k : Nat) (r : Int), 0 ≤ r → r * r ≤ N → ∃ R, num_root.l0 (k + 1) 0 N r 0 = some R ∧ imageeditorref01_Hypot.l0 (k + 1) N 0 r 0 = some R ∧ 0 ≤ R ∧ R * R ≤ N := by
    intro k r h0 h
    have hr := sq_small h0 h hN
    refine ⟨r, ?_, ?_, h0, h⟩
    · simp only [num_root.l0]; rw [if_neg (by omega), w_in (by omega) (by omega)]
    · simp only [imageeditorref01_Hypot.l0, imageeditorref01_signed.f]
      rw [if_neg (by omega), if_neg (by decide), if_neg (by omega), if_neg (by omega), w_in (by omega) (by omega)]; rfl
  have step : ∀ (k : Nat) (r bit : Int), 0 < bit → bit < 18446744073709551616 → 0 ≤ r → r * r ≤ N → ∃ r', 0 ≤ r' ∧ r' * r' ≤ N ∧ num_root.l0 (k + 1) 0 N r bit = num_root.l0 k 0 N r' (bit / 2) ∧ imageeditorref01_Hypot.l0 (k + 1) N 0 r bit = imageeditorref01_Hypot.l0 k N 0 r' (bit / 2) := by
    intro k r bit b0 b1 h0 h
    have hr := sq_small h0 h hN
    have s := or_bd (a := r) (b := bit) (by omega) (by omega)
    simp only [num_root.l0, imageeditorref01_Hypot.l0]
    rw [if_pos b0, if_pos b0, times_some s s, product_some s s]
    simp only [Option.bind_some]
    generalize Go.bits .or .u64 r bit = S at *
    have hS : 0 ≤ S * S := Int.mul_nonneg s.1 s.1
    have c0 : ¬ S * S / 18446744073709551616 < 0 := by omega
    simp only [if_neg c0]
    by_cases c : S * S / 18446744073709551616 = 0
    · simp only [if_pos c]
      by_cases c2 : S * S % 18446744073709551616 ≤ N
      · simp only [if_pos c2]; exact ⟨S, s.1, by omega, rfl, rfl⟩
      · simp only [if_neg c2]; exact ⟨r, h0, h, rfl, rfl⟩
    · simp only [if_neg c]; exact ⟨r, h0, h, rfl, rfl⟩
  induction e with
  | zero =>
    intro k r bit hb he h0 h
    obtain rfl : bit = 1 := hb
    obtain ⟨r', h0', h', e1, e2⟩ := step (k + 1) r 1 (by omega) (by omega) h0 h
    obtain ⟨R, f1, f2, f3⟩ := fin k r' h0' h'
    exact ⟨R, e1.trans f1, e2.trans f2, f3⟩
  | succ e ih =>
    intro k r bit hb he h0 h
    have hp := pw_bd (e := e) (by omega)
    have hb' : bit = 2 * pw e := hb
    obtain ⟨r', h0', h', e1, e2⟩ := step (k + e + 2) r bit (by omega) (by omega) h0 h
    obtain ⟨R, f1, f2, f3⟩ := ih k r' (bit / 2) (by omega) (by omega) h0' h'
    exact ⟨R, (show k + (e + 1) + 2 = k + e + 2 + 1 by omega) ▸ e1.trans f1, (show k + (e + 1) + 2 = k + e + 2 + 1 by omega) ▸ e2.trans f2, f3⟩

theorem u_bits (x y : Int) (h : -1073741824 ≤ x ∧ x ≤ 1073741824) (g : -1073741824 ≤ y ∧ y ≤ 1073741824) : 0 ≤ x * x ∧ x * x ≤ 1152921504606846976 := by
  have := mul_bd (A := 1073741824) (B := 1073741824) (a := x) (b := x) (by omega) (by omega)
  have h2 : 0 ≤ x * x := by
    rcases Int.le_total 0 x with c | c
    · exact Int.mul_nonneg c c
    · exact Int.mul_nonneg_of_nonpos_of_nonpos c c
  omega
theorem size_some (x : Int) (h : -1073741824 ≤ x ∧ x ≤ 1073741824) : num_size.f x = some (max x (-x)) := by
  have hw : ∀ n : Int, IntKind.u64.wrap n = n % 18446744073709551616 := fun _ => rfl
  unfold num_size.f; simp only [hw]
  split <;> (congr 1; omega)
theorem max_sq (x : Int) : max x (-x) * max x (-x) = x * x := by
  rcases Int.le_total 0 x with c | c
  · rw [show max x (-x) = x by omega]
  · rw [show max x (-x) = -x by omega]; grind
theorem pw62 : (4611686018427387904 : Int) = pw 62 := by decide
theorem root_at {N : Int} (hN : 0 ≤ N ∧ N < 4611686018427387904) (k : Nat) : ∃ R, num_root.l0 (k + 62 + 2) 0 N 0 4611686018427387904 = some R ∧ imageeditorref01_Hypot.l0 (k + 62 + 2) N 0 0 4611686018427387904 = some R ∧ 0 ≤ R ∧ R * R ≤ N :=
  root_l hN.1 hN.2 62 k 0 4611686018427387904 pw62 (by omega) (by omega) (by omega)
theorem up1 {N R : Int} (K : Nat) (r1 : num_root.l0 K 0 N 0 4611686018427387904 = some R) (k : Nat) : num_root.l0 (k + K) 0 N 0 4611686018427387904 = some R := by
  induction k with
  | zero => rw [Nat.zero_add]; exact r1
  | succ k ih => rw [show k + 1 + K = k + K + 1 by omega]; exact (num_root.mono_l (k + K)) _ _ _ _ _ ih
theorem up2 {N R : Int} (K : Nat) (r1 : imageeditorref01_Hypot.l0 K N 0 0 4611686018427387904 = some R) (k : Nat) : imageeditorref01_Hypot.l0 (k + K) N 0 0 4611686018427387904 = some R := by
  induction k with
  | zero => rw [Nat.zero_add]; exact r1
  | succ k ih => rw [show k + 1 + K = k + K + 1 by omega]; exact (imageeditorref01_Hypot.mono_l (k + K)).2 _ _ _ _ _ ih
theorem wz : IntKind.u64.wrap (0 + 0) = 0 := u_in (by omega) (by omega)
theorem hypot_1 {x y N R : Int} (hN : 0 ≤ N ∧ N < 4611686018427387904) (r : ∀ k, num_root.l0 (k + 64) 0 N 0 4611686018427387904 = some R) (hx : -1073741824 ≤ x ∧ x ≤ 1073741824) (hy : -1073741824 ≤ y ∧ y ≤ 1073741824) (e : x * x + y * y = N) (k : Nat) : num_Hypot.f (k + 70) x y = some R := by
  have bx := u_bits x x hx hx
  have bY := u_bits y y hy hy
  have dx : (x * x) / 18446744073709551616 = 0 ∧ (x * x) % 18446744073709551616 = x * x := by omega
  have dy : (y * y) / 18446744073709551616 = 0 ∧ (y * y) % 18446744073709551616 = y * y := by omega
  unfold num_Hypot.f
  rw [size_some x hx, size_some y hy]; simp only [Option.bind_some]
  rw [times_some (by omega) (by omega), times_some (by omega) (by omega)]; simp only [Option.bind_some]
  rw [max_sq, max_sq, dx.1, dx.2, dy.1, dy.2, u_in (n := x * x + y * y) (by omega) (by omega), if_neg (by omega), e, wz]
  unfold num_root.f
  rw [show k + 70 = (k + 6) + 64 by omega, r]; rfl
theorem o63 : Go.bits .or .u64 0 9223372036854775808 = 9223372036854775808 := by rw [or_nat (by omega) (by omega)]; decide
theorem ref_first {N : Int} (k : Nat) : imageeditorref01_Hypot.j0 (k + 2) N 0 = imageeditorref01_Hypot.l0 k N 0 0 4611686018427387904 := by
  rw [imageeditorref01_Hypot.j0, imageeditorref01_Hypot.l0, if_pos (by omega), o63, product_some (by omega) (by omega)]
  simp only [Option.bind_some]
  rw [if_neg (by omega), if_neg (by omega), show (9223372036854775808 : Int) / 2 = 4611686018427387904 by omega]
theorem hypot_2 {x y N R : Int} (hN : 0 ≤ N ∧ N < 4611686018427387904) (r : ∀ k, imageeditorref01_Hypot.l0 (k + 64) N 0 0 4611686018427387904 = some R) (hx : -1073741824 ≤ x ∧ x ≤ 1073741824) (hy : -1073741824 ≤ y ∧ y ≤ 1073741824) (e : x * x + y * y = N) (k : Nat) : imageeditorref01_Hypot.f (k + 70) x y = some R := by
  have bx := u_bits x x hx hx
  have bY := u_bits y y hy hy
  have dx : (x * x) / 18446744073709551616 = 0 ∧ (x * x) % 18446744073709551616 = x * x := by omega
  have dy : (y * y) / 18446744073709551616 = 0 ∧ (y * y) % 18446744073709551616 = y * y := by omega
  unfold imageeditorref01_Hypot.f
  rw [rabs_some x (by omega) (by omega), rabs_some y (by omega) (by omega)]; simp only [Option.bind_some]
  rw [product_some (by omega) (by omega), product_some (by omega) (by omega)]; simp only [Option.bind_some]
  rw [max_sq, max_sq, dx.1, dx.2, dy.1, dy.2, u_in (n := x * x + y * y) (by omega) (by omega), if_neg (by omega), e, wz]
  rw [show k + 70 = (k + 4) + 64 + 2 by omega, ref_first]
  exact r (k + 4)
/-- both lengths: one number, told by the sum of the squares -/
theorem hypot_some (N : Int) (hN : 0 ≤ N ∧ N < 4611686018427387904) : ∃ R, 0 ≤ R ∧ R < 2147483648 ∧ ∀ (x y : Int), -1073741824 ≤ x ∧ x ≤ 1073741824 → -1073741824 ≤ y ∧ y ≤ 1073741824 → x * x + y * y = N → ∀ k, num_Hypot.f (k + 70) x y = some R ∧ imageeditorref01_Hypot.f (k + 70) x y = some R := by
  obtain ⟨R, r1, r2, r3, r4⟩ := root_at hN 0
  rw [show 0 + 62 + 2 = 64 by omega] at r1 r2
  exact ⟨R, r3, sq_small r3 r4 hN.2, fun x y hx hy e k => ⟨hypot_1 hN (up1 64 r1) hx hy e k, hypot_2 hN (up2 64 r2) hx hy e k⟩⟩
end Go.Proofs.Ytmlcobnidfkhfaa.Q
