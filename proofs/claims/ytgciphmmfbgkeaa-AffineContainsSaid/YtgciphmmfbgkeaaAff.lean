/- Transforms in plain numbers: what the program's and the reference's Check, Apply, Then, Move and Scale compute. -/
import Derived.Test.YtgciphmmfbgkeaaWrap
namespace Go.Proofs.Ytgciphmmfbgkeaa.Q
open Go.RowKit Go.Proofs.YtgciphmmfbgkeaaW.PrintWords Go.Proofs.YtgciphmmfbgkeaaW.PrintLast Go.Proofs.YtgciphmmfbgkeaaW.PrintMore
set_option linter.unusedVariables false
set_option linter.unusedSimpArgs false

def coef (x : Int) : Int := min 16777216 (max x (-16777216))
def pos (x : Int) : Int := min 1099511627776 (max x (-1099511627776))
theorem coef_bd (x : Int) : -16777216 ≤ coef x ∧ coef x ≤ 16777216 := by unfold coef; omega
theorem pos_bd (x : Int) : -1099511627776 ≤ pos x ∧ pos x ≤ 1099511627776 := by unfold pos; omega
theorem coef_in {x : Int} (h : -16777216 ≤ x ∧ x ≤ 16777216) : coef x = x := by unfold coef; omega
theorem pos_in {x : Int} (h : -1099511627776 ≤ x ∧ x ≤ 1099511627776) : pos x = x := by unfold pos; omega
theorem coef_coef (x : Int) : coef (coef x) = coef x := coef_in (coef_bd x)
theorem pos_pos (x : Int) : pos (pos x) = pos x := pos_in (pos_bd x)
theorem coef_some (x : Int) : affine_coefficient.f x = some (coef x) := by unfold affine_coefficient.f; rw [clamp_some]; rfl
theorem pos_some (x : Int) : affine_position.f x = some (pos x) := by unfold affine_position.f; rw [clamp_some]; rfl
theorem rcoef_some (x : Int) : imageeditorref12_coef.f x = some (coef x) := by unfold imageeditorref12_coef.f; rw [rclamp_some]; rfl
theorem rfar_some (x : Int) : imageeditorref12_far.f x = some (pos x) := by unfold imageeditorref12_far.f; rw [rclamp_some]; rfl
theorem limited_some (a b c d e f : Int) : affine_limited.f a b c d e f = some (coef a, coef b, coef c, coef d, pos e, pos f) := by
  unfold affine_limited.f; simp only [coef_some, pos_some, Option.bind_some]
theorem rlimit_some (a b c d e f : Int) : imageeditorref12_Limit.f a b c d e f = some (coef a, coef b, coef c, coef d, pos e, pos f) := by
  unfold imageeditorref12_Limit.f; simp only [rcoef_some, rfar_some, Option.bind_some]

/-- is a transform valid -/
def Vld (a b c d e f : Int) : Prop := coef a = a ∧ coef b = b ∧ coef c = c ∧ coef d = d ∧ pos e = e ∧ pos f = f
instance (a b c d e f : Int) : Decidable (Vld a b c d e f) := by unfold Vld; infer_instance
theorem vld_in {a b c d e f : Int} (ha : -16777216 ≤ a ∧ a ≤ 16777216) (hb : -16777216 ≤ b ∧ b ≤ 16777216) (hc : -16777216 ≤ c ∧ c ≤ 16777216) (hd : -16777216 ≤ d ∧ d ≤ 16777216)
    (he : -1099511627776 ≤ e ∧ e ≤ 1099511627776) (hf : -1099511627776 ≤ f ∧ f ≤ 1099511627776) : Vld a b c d e f := ⟨coef_in ha, coef_in hb, coef_in hc, coef_in hd, pos_in he, pos_in hf⟩
theorem check_ok {a b c d e f : Int} (h : Vld a b c d e f) : affine_Check.f a b c d e f = some 0 := by
  obtain ⟨h1, h2, h3, h4, h5, h6⟩ := h
  unfold affine_Check.f; rw [limited_some, h1, h2, h3, h4, h5, h6]; simp
theorem check_same (a b c d e f : Int) : affine_Check.f a b c d e f = imageeditorref12_Check.f a b c d e f := by
  unfold affine_Check.f imageeditorref12_Check.f
  rw [limited_some, rlimit_some]
  simp only [Option.bind_some]
  rw [Bool.beq_comm (a := a), Bool.beq_comm (a := b), Bool.beq_comm (a := c), Bool.beq_comm (a := d), Bool.beq_comm (a := e), Bool.beq_comm (a := f)]
theorem check_cases (a b c d e f : Int) : affine_Check.f a b c d e f = some (if Vld a b c d e f then 0 else 2) := by
  by_cases h : Vld a b c d e f
  · rw [check_ok h, if_pos h]
  · rw [if_neg h]; unfold affine_Check.f; rw [limited_some]; simp only [Option.bind_some]
    rw [if_pos]
    unfold Vld at h
    simp only [Bool.or_eq_true, Bool.not_eq_true', beq_eq_false_iff_ne, ne_eq]
    omega

theorem dv_add (q r : Int) : dv (65536 * q + r) 65536 = q + dv r 65536 := by unfold dv; omega
/-- (m x + n y) / One, rounded: in whole parts and rests -/
theorem dot_eq (m n x y : Int) : m * (x / 65536) + n * (y / 65536) + dv (m * (x - x / 65536 * 65536) + n * (y - y / 65536 * 65536)) 65536 = dv (m * x + n * y) 65536 := by
  rw [← dv_add]
  congr 1
  grind
theorem dot_bds {m n x y : Int} (hm : -16777216 ≤ m ∧ m ≤ 16777216) (hn : -16777216 ≤ n ∧ n ≤ 16777216) (hx : -2199023255552 ≤ x ∧ x ≤ 2199023255552) (hy : -2199023255552 ≤ y ∧ y ≤ 2199023255552) :
    (-562949953421312 ≤ m * (x / 65536) ∧ m * (x / 65536) ≤ 562949953421312) ∧ (-562949953421312 ≤ n * (y / 65536) ∧ n * (y / 65536) ≤ 562949953421312) ∧
    (-1099511627776 ≤ m * (x - x / 65536 * 65536) ∧ m * (x - x / 65536 * 65536) ≤ 1099511627776) ∧ (-1099511627776 ≤ n * (y - y / 65536 * 65536) ∧ n * (y - y / 65536 * 65536) ≤ 1099511627776) := by
  have p1 := mul_bd (A := 16777216) (B := 33554432) (a := m) (b := x / 65536) (by omega) (by omega)
  have p2 := mul_bd (A := 16777216) (B := 33554432) (a := n) (b := y / 65536) (by omega) (by omega)
  have p3 := mul_bd (A := 16777216) (B := 65536) (a := m) (b := x - x / 65536 * 65536) (by omega) (by omega)
  have p4 := mul_bd (A := 16777216) (B := 65536) (a := n) (b := y - y / 65536 * 65536) (by omega) (by omega)
  omega
theorem dv_lin (a : Int) : 131072 * dv a 65536 ≤ 2 * a + 65536 ∧ 2 * a - 65536 < 131072 * dv a 65536 := by unfold dv; omega
theorem dot_some (k : Nat) {m n x y : Int} (hm : -16777216 ≤ m ∧ m ≤ 16777216) (hn : -16777216 ≤ n ∧ n ≤ 16777216) (hx : -2199023255552 ≤ x ∧ x ≤ 2199023255552) (hy : -2199023255552 ≤ y ∧ y ≤ 2199023255552) :
    affine_dot.f (k + 1) m n x y = some (dv (m * x + n * y) 65536) := by
  obtain ⟨p1, p2, p3, p4⟩ := dot_bds hm hn hx hy
  have q := dv_lin (m * (x - x / 65536 * 65536) + n * (y - y / 65536 * 65536))
  unfold affine_dot.f
  rw [floor_pos x _ (by omega) (by omega) (by omega), floor_pos y _ (by omega) (by omega) (by omega)]
  simp only [Option.bind_some]
  rw [w_in (n := x / 65536 * 65536) (by omega) (by omega), w_in (n := y / 65536 * 65536) (by omega) (by omega), w_in (n := x - x / 65536 * 65536) (by omega) (by omega), w_in (n := y - y / 65536 * 65536) (by omega) (by omega),
    w_in (n := m * (x - x / 65536 * 65536)) (by omega) (by omega), w_in (n := n * (y - y / 65536 * 65536)) (by omega) (by omega), w_in (n := m * (x - x / 65536 * 65536) + n * (y - y / 65536 * 65536)) (by omega) (by omega), div_pos k _ _ (by omega) (by omega) (by omega),
    w_in (n := m * (x / 65536)) (by omega) (by omega), w_in (n := n * (y / 65536)) (by omega) (by omega), w_in (n := m * (x / 65536) + n * (y / 65536)) (by omega) (by omega)]
  simp only [Option.bind_some]
  rw [w_in (by omega) (by omega), dot_eq]
theorem line_some (k : Nat) {m n x y : Int} (hm : -16777216 ≤ m ∧ m ≤ 16777216) (hn : -16777216 ≤ n ∧ n ≤ 16777216) (hx : -2199023255552 ≤ x ∧ x ≤ 2199023255552) (hy : -2199023255552 ≤ y ∧ y ≤ 2199023255552) :
    imageeditorref12_line.f (k + 1) m n x y = some (dv (m * x + n * y) 65536) := by
  obtain ⟨p1, p2, p3, p4⟩ := dot_bds hm hn hx hy
  have q := dv_lin (m * (x - x / 65536 * 65536) + n * (y - y / 65536 * 65536))
  unfold imageeditorref12_line.f
  rw [rfloor_pos k x _ (by omega) (by omega) (by omega), rfloor_pos k y _ (by omega) (by omega) (by omega)]
  simp only [Option.bind_some]
  rw [w_in (n := x / 65536 * 65536) (by omega) (by omega), w_in (n := y / 65536 * 65536) (by omega) (by omega), w_in (n := x - x / 65536 * 65536) (by omega) (by omega), w_in (n := y - y / 65536 * 65536) (by omega) (by omega),
    w_in (n := m * (x - x / 65536 * 65536)) (by omega) (by omega), w_in (n := n * (y - y / 65536 * 65536)) (by omega) (by omega), w_in (n := m * (x - x / 65536 * 65536) + n * (y - y / 65536 * 65536)) (by omega) (by omega), rdiv_pos k _ _ (by omega) (by omega) (by omega),
    w_in (n := m * (x / 65536)) (by omega) (by omega), w_in (n := n * (y / 65536)) (by omega) (by omega), w_in (n := m * (x / 65536) + n * (y / 65536)) (by omega) (by omega)]
  simp only [Option.bind_some]
  rw [w_in (by omega) (by omega), dot_eq]

/-- one coordinate of an image -/
def apx (m n e x y : Int) : Int := pos (dv (coef m * pos x + coef n * pos y) 65536 + pos e)
theorem apx_bd {m n x y : Int} : -72057594037927936 ≤ dv (coef m * pos x + coef n * pos y) 65536 ∧ dv (coef m * pos x + coef n * pos y) 65536 ≤ 72057594037927936 := by
  have h1 := coef_bd m; have h2 := coef_bd n; have h3 := pos_bd x; have h4 := pos_bd y
  have p1 := mul_bd (A := 16777216) (B := 1099511627776) h1 h3
  have p2 := mul_bd (A := 16777216) (B := 1099511627776) h2 h4
  have q := dv_lin (coef m * pos x + coef n * pos y)
  omega
theorem apply_some (k : Nat) (a b c d e f x y : Int) : affine_Apply.f (k + 1) a b c d e f x y = some (apx a c e x y, apx b d f x y) := by
  have h1 := coef_bd a; have h2 := coef_bd b; have h3 := coef_bd c; have h4 := coef_bd d; have h5 := pos_bd e; have h6 := pos_bd f; have h7 := pos_bd x; have h8 := pos_bd y
  have q1 := @apx_bd a c x y; have q2 := @apx_bd b d x y
  unfold affine_Apply.f
  rw [limited_some, pos_some, pos_some]
  simp only [Option.bind_some]
  rw [dot_some k h1 h3 (by omega) (by omega), dot_some k h2 h4 (by omega) (by omega)]
  simp only [Option.bind_some]
  rw [w_in (by omega) (by omega), w_in (by omega) (by omega), pos_some, pos_some]
  rfl
theorem rapply_some (k : Nat) (a b c d e f x y : Int) : imageeditorref12_Apply.f (k + 1) a b c d e f x y = some (apx a c e x y, apx b d f x y) := by
  have h1 := coef_bd a; have h2 := coef_bd b; have h3 := coef_bd c; have h4 := coef_bd d; have h5 := pos_bd e; have h6 := pos_bd f; have h7 := pos_bd x; have h8 := pos_bd y
  have q1 := @apx_bd a c x y; have q2 := @apx_bd b d x y
  unfold imageeditorref12_Apply.f
  rw [rlimit_some, rfar_some, rfar_some]
  simp only [Option.bind_some]
  rw [line_some k h1 h3 (by omega) (by omega), line_some k h2 h4 (by omega) (by omega)]
  simp only [Option.bind_some]
  rw [w_in (by omega) (by omega), w_in (by omega) (by omega), rfar_some, rfar_some]
  rfl

/-- one coefficient of a composition -/
def thx (m x n y : Int) : Int := coef (dv (coef m * coef x + coef n * coef y) 65536)
theorem then1_some (k : Nat) (m x n y : Int) : affine_Then_1.f (k + 1) (coef m) (coef x) (coef n) (coef y) = some (thx m x n y) := by
  have h1 := coef_bd m; have h2 := coef_bd x; have h3 := coef_bd n; have h4 := coef_bd y
  have p1 := mul_bd (A := 16777216) (B := 16777216) h1 h2
  have p2 := mul_bd (A := 16777216) (B := 16777216) h3 h4
  unfold affine_Then_1.f
  rw [w_in (n := coef m * coef x) (by omega) (by omega), w_in (n := coef n * coef y) (by omega) (by omega), w_in (by omega) (by omega), div_pos k _ _ (by omega) (by omega) (by omega)]
  simp only [Option.bind_some, coef_some]
  rfl
theorem apx_lim (m n e x y : Int) : apx (coef m) (coef n) (pos e) (pos x) (pos y) = apx m n e x y := by unfold apx; simp only [coef_coef, pos_pos]
theorem then_some (k : Nat) (a b c d e f a' b' c' d' e' f' : Int) : affine_Then.f (k + 1) a b c d e f a' b' c' d' e' f' =
    some (thx a' a c' b, thx b' a d' b, thx a' c c' d, thx b' c d' d, apx a' c' e' e f, apx b' d' f' e f) := by
  unfold affine_Then.f
  rw [limited_some, limited_some]
  simp only [Option.bind_some]
  rw [apply_some, apx_lim, apx_lim, then1_some, then1_some, then1_some, then1_some]
  simp only [Option.bind_some]
theorem move_some (x y : Int) : affine_Move.f x y = some (65536, 0, 0, 65536, min 1048576 (max x (-1048576)) * 65536, min 1048576 (max y (-1048576)) * 65536) := by
  unfold affine_Move.f affine_Same.f
  rw [clamp_some, clamp_some]
  simp only [Option.bind_some]
  rw [w_in (by omega) (by omega), w_in (by omega) (by omega)]
theorem scale_some (x y : Int) : affine_Scale.f x y = some (coef x, 0, 0, coef y, 0, 0) := by
  unfold affine_Scale.f; simp only [coef_some, Option.bind_some]
/-- the chapter's examples -/
theorem ex_some : imageeditorlaw12_awake.f 12 = some true := by decide +kernel
theorem ex_at (k : Nat) : imageeditorlaw12_awake.f (k + 12) = some true := by
  induction k with
  | zero => exact ex_some
  | succ k ih => exact imageeditorlaw12_awake.mono (k + 12) _ ih

end Go.Proofs.Ytgciphmmfbgkeaa.Q
