/- Places in plain numbers: what the program's and the reference's checks of kind, spread and parameters say. -/
import Derived.Test.YtmlcobnidfkhfaaQ3
import Derived.Test.YtmlcobnidfkhfaaWrap
namespace Go.Proofs.Ytmlcobnidfkhfaa.Q
open Go.RowKit Go.Proofs.YtmlcobnidfkhfaaW.PrintWords Go.Proofs.YtmlcobnidfkhfaaW.PrintLast Go.Proofs.YtmlcobnidfkhfaaW.PrintMore
set_option linter.unusedVariables false
set_option linter.unusedSimpArgs false

/-- the parameters from place i on are within bounds -/
def Rg (l : List Int) (i : Int) : Prop := ∀ j : Int, i ≤ j → j < l.length → -1048576 ≤ rd l j ∧ rd l j ≤ 1048576
/-- the third parameter of a radial or a diamond gradient is negative -/
def Ng (kind : Int) (l : List Int) : Prop := (kind = 2 ∨ kind = 4) ∧ rd l 2 < 0
instance (kind : Int) (l : List Int) : Decidable (Ng kind l) := by unfold Ng; infer_instance
theorem rg_cons {l : List Int} {i : Int} (h : -1048576 ≤ rd l i ∧ rd l i ≤ 1048576) (g : Rg l (i + 1)) : Rg l i := fun j a b => by
  by_cases e : j = i
  · subst e; exact h
  · exact g j (by omega) b
theorem rg_tail {l : List Int} {i : Int} (g : Rg l i) : Rg l (i + 1) := fun j a b => g j (by omega) b
def endp (kind : Int) (l : List Int) (a b c : Int) : Int × Int × Int := if Ng kind l then (a, b, 2) else (a, b, c)
theorem params_end (k : Nat) (kind : Int) (l m : List Int) (a b c n : Int) (hl : 3 ≤ (l.length : Int)) : gradient_params.l0 (k + 1) kind l a b c m n n = some (endp kind l a b c) := by
  simp only [gradient_params.l0, endp]
  rw [if_neg (by omega)]
  by_cases h2 : kind = 2
  · rw [if_pos h2, if_pos (by omega)]
    by_cases h : rd l 2 < 0
    · rw [if_pos h, if_pos (show Ng kind l from ⟨.inl h2, h⟩)]
    · rw [if_neg h, if_neg (fun g : Ng kind l => h g.2)]
  · rw [if_neg h2]
    by_cases h4 : kind = 4
    · rw [if_pos h4, if_pos (by omega)]
      by_cases h : rd l 2 < 0
      · rw [if_pos h, if_pos (show Ng kind l from ⟨.inr h4, h⟩)]
      · rw [if_neg h, if_neg (fun g : Ng kind l => h g.2)]
    · rw [if_neg h4, if_neg (fun g : Ng kind l => by have := g.1; omega)]
theorem params_l (kind : Int) (l : List Int) (a b : Int) (hl : 3 ≤ (l.length : Int)) (hl2 : l.length ≤ 100) (d : Nat) : ∀ (k : Nat) (c i : Int), 0 ≤ i → i + d = l.length →
    (Rg l i ∧ gradient_params.l0 (k + d + 1) kind l a b c l (l.length : Int) i = some (endp kind l a b c)) ∨ (¬ Rg l i ∧ gradient_params.l0 (k + d + 1) kind l a b c l (l.length : Int) i = some (endp kind l a b 2)) := by
  induction d with
  | zero =>
    intro k c i h0 h1
    obtain rfl : i = l.length := by omega
    exact .inl ⟨fun j a b => by omega, params_end _ _ _ _ _ _ _ _ hl⟩
  | succ d ih =>
    intro k c i h0 h1
    rw [show k + (d + 1) + 1 = k + d + 1 + 1 by omega, gradient_params.l0]
    rw [if_pos (by omega), if_pos h0, if_pos (by omega), w_in (n := i + 1) (by omega) (by omega)]
    have bad : (-1048576 ≤ rd l i ∧ rd l i ≤ 1048576 → False) → (Rg l i ∧ gradient_params.l0 (k + d + 1) kind l a b 2 l (l.length : Int) (i + 1) = some (endp kind l a b c)) ∨ (¬ Rg l i ∧ gradient_params.l0 (k + d + 1) kind l a b 2 l (l.length : Int) (i + 1) = some (endp kind l a b 2)) := by
      intro h
      refine .inr ⟨fun g => h (g i (Int.le_refl _) (by omega)), ?_⟩
      rcases ih k 2 (i + 1) (by omega) (by omega) with ⟨_, e⟩ | ⟨_, e⟩ <;> exact e
    by_cases c1 : rd l i < -1048576
    · rw [if_pos c1]; exact bad fun h => by omega
    rw [if_neg c1]
    by_cases c2 : rd l i > 1048576
    · rw [if_pos c2]; exact bad fun h => by omega
    rw [if_neg c2]
    rcases ih k c (i + 1) (by omega) (by omega) with ⟨g, e⟩ | ⟨g, e⟩
    · exact .inl ⟨rg_cons ⟨by omega, by omega⟩ g, e⟩
    · exact .inr ⟨fun h => g (rg_tail h), e⟩

def Kok (kind spread : Int) : Prop := 1 ≤ kind ∧ kind ≤ 4 ∧ 0 ≤ spread ∧ spread ≤ 2
def Lok (kind : Int) (l : List Int) : Prop := (kind = 1 → (l.length : Int) = 4) ∧ (kind ≠ 1 → (l.length : Int) = 3)
def Vok (kind : Int) (l : List Int) : Prop := Rg l 0 ∧ ¬ Ng kind l
theorem params_two (k : Nat) (kind : Int) (l : List Int) (a want : Int) (hw : (kind = 1 → want = 4) ∧ (kind ≠ 1 → want = 3)) :
    ∃ en ev, gradient_params.j2 (k + 6) kind l a 0 0 want = some (a, en, ev) ∧ (¬ Lok kind l ∧ en = 1 ∧ ev = 0 ∨ Lok kind l ∧ en = 0 ∧ (Vok kind l ∧ ev = 0 ∨ ¬ Vok kind l ∧ ev = 2)) := by
  simp only [gradient_params.j2]
  by_cases c : (l.length : Int) = want
  · rw [if_pos c]
    have hL : Lok kind l := ⟨fun h => by have := hw.1 h; omega, fun h => by have := hw.2 h; omega⟩
    have hw' : want = 3 ∨ want = 4 := by
      by_cases h : kind = 1
      · exact .inr (hw.1 h)
      · exact .inl (hw.2 h)
    obtain ⟨d, k', e, hd⟩ : ∃ (d k' : Nat), k + 5 = k' + d + 1 ∧ (0 : Int) + d = l.length := by
      rcases hw' with h | h
      · exact ⟨3, k + 1, by omega, by omega⟩
      · exact ⟨4, k, by omega, by omega⟩
    rw [e]
    rcases params_l kind l a 0 (by omega) (by omega) d k' 0 0 (Int.le_refl _) hd with ⟨g, h⟩ | ⟨g, h⟩
    · rw [h]; unfold endp
      by_cases n : Ng kind l
      · rw [if_pos n]; exact ⟨0, 2, rfl, .inr ⟨hL, rfl, .inr ⟨fun v => v.2 n, rfl⟩⟩⟩
      · rw [if_neg n]; exact ⟨0, 0, rfl, .inr ⟨hL, rfl, .inl ⟨⟨g, n⟩, rfl⟩⟩⟩
    · rw [h]; unfold endp
      refine ⟨0, 2, by split <;> rfl, .inr ⟨hL, rfl, .inr ⟨fun v => g v.1, rfl⟩⟩⟩
  · rw [if_neg c]
    refine ⟨1, 0, rfl, .inl ⟨fun h => ?_, rfl, rfl⟩⟩
    by_cases k1 : kind = 1
    · exact c ((h.1 k1).trans (hw.1 k1).symm)
    · exact c ((h.2 k1).trans (hw.2 k1).symm)
theorem params_some (k : Nat) (kind : Int) (l : List Int) (spread : Int) :
    ∃ ek en ev, gradient_params.f (k + 8) kind l spread = some (ek, en, ev) ∧ (Kok kind spread ∧ ek = 0 ∨ ¬ Kok kind spread ∧ ek = 8) ∧ (¬ Lok kind l ∧ en = 1 ∧ ev = 0 ∨ Lok kind l ∧ en = 0 ∧ (Vok kind l ∧ ev = 0 ∨ ¬ Vok kind l ∧ ev = 2)) := by
  have main : ∀ a want, (kind = 1 → want = 4) ∧ (kind ≠ 1 → want = 3) → ∃ en ev, gradient_params.j0 (k + 8) kind l spread a 0 0 want = some (if 0 ≤ spread ∧ spread ≤ 2 then a else 8, en, ev) ∧ (¬ Lok kind l ∧ en = 1 ∧ ev = 0 ∨ Lok kind l ∧ en = 0 ∧ (Vok kind l ∧ ev = 0 ∨ ¬ Vok kind l ∧ ev = 2)) := by
    intro a want hw
    simp only [gradient_params.j0, gradient_params.j1]
    by_cases c : spread < 0
    · rw [if_pos c, if_pos trivial, if_neg (by omega)]; exact params_two k kind l 8 want hw
    · rw [if_neg c]
      by_cases c2 : spread > 2
      · rw [if_pos (decide_eq_true c2), if_neg (by omega)]; exact params_two k kind l 8 want hw
      · rw [if_neg (by simpa using c2), if_pos (by omega)]; exact params_two k kind l a want hw
  unfold gradient_params.f
  have fin : ∀ a want, (kind = 1 → want = 4) ∧ (kind ≠ 1 → want = 3) → (1 ≤ kind ∧ kind ≤ 4 ∧ a = 0 ∨ ¬ (1 ≤ kind ∧ kind ≤ 4) ∧ a = 8) → ∃ ek en ev, gradient_params.j0 (k + 8) kind l spread a 0 0 want = some (ek, en, ev) ∧ (Kok kind spread ∧ ek = 0 ∨ ¬ Kok kind spread ∧ ek = 8) ∧ (¬ Lok kind l ∧ en = 1 ∧ ev = 0 ∨ Lok kind l ∧ en = 0 ∧ (Vok kind l ∧ ev = 0 ∨ ¬ Vok kind l ∧ ev = 2)) := by
    intro a want hw ha
    obtain ⟨en, ev, h1, h2⟩ := main a want hw
    refine ⟨_, en, ev, h1, ?_, h2⟩
    by_cases c : 0 ≤ spread ∧ spread ≤ 2
    · rw [if_pos c]
      rcases ha with ⟨x, y, z⟩ | ⟨x, z⟩
      · exact .inl ⟨⟨x, y, c⟩, z⟩
      · exact .inr ⟨fun h => x ⟨h.1, h.2.1⟩, z⟩
    · rw [if_neg c]; exact .inr ⟨fun h => c h.2.2, rfl⟩
  by_cases k1 : kind = 1
  · rw [if_pos k1]; exact fin 0 4 (by omega) (by omega)
  rw [if_neg k1]
  by_cases k2 : kind = 2
  · rw [if_pos k2]; exact fin 0 3 (by omega) (by omega)
  rw [if_neg k2]
  by_cases k3 : kind = 3
  · rw [if_pos k3]; exact fin 0 3 (by omega) (by omega)
  rw [if_neg k3]
  by_cases k4 : kind = 4
  · rw [if_pos k4]; exact fin 0 3 (by omega) (by omega)
  rw [if_neg k4]; exact fin 8 3 (by omega) (by omega)

/-! the reference's -/
theorem head_some (k : Nat) (kind : Int) (l : List Int) (spread : Int) : (Kok kind spread ∧ Lok kind l ∧ imageeditorref18_head.f (k + 1) kind l spread = some 0) ∨ (Kok kind spread ∧ ¬ Lok kind l ∧ imageeditorref18_head.f (k + 1) kind l spread = some 1) ∨ (¬ Kok kind spread ∧ imageeditorref18_head.f (k + 1) kind l spread = some 8) := by
  unfold imageeditorref18_head.f Kok Lok
  simp only [imageeditorref18_head.j0]
  by_cases c1 : kind < 1
  · rw [if_pos c1, if_pos trivial]; exact .inr (.inr ⟨by omega, rfl⟩)
  rw [if_neg c1]
  by_cases c2 : kind > 4
  · rw [if_pos c2, if_pos trivial]; exact .inr (.inr ⟨by omega, rfl⟩)
  rw [if_neg c2]
  by_cases c3 : spread < 0
  · rw [if_pos c3, if_pos trivial]; exact .inr (.inr ⟨by omega, rfl⟩)
  rw [if_neg c3]
  by_cases c4 : spread > 2
  · rw [if_pos (decide_eq_true c4)]; exact .inr (.inr ⟨by omega, rfl⟩)
  rw [if_neg (by simpa using c4)]
  by_cases k1 : kind = 1
  · rw [if_pos k1]
    by_cases h : (l.length : Int) = 4
    · rw [if_pos h]; exact .inl ⟨by omega, by omega, rfl⟩
    · rw [if_neg h]; exact .inr (.inl ⟨by omega, by omega, rfl⟩)
  · rw [if_neg k1]
    by_cases h : (l.length : Int) = 3
    · rw [if_pos h]; exact .inl ⟨by omega, by omega, rfl⟩
    · rw [if_neg h]; exact .inr (.inl ⟨by omega, by omega, rfl⟩)
theorem numbers_l (kind : Int) (l : List Int) (hl : 3 ≤ (l.length : Int)) (hl2 : l.length ≤ 100) (d : Nat) : ∀ (k : Nat) (i : Int), 0 ≤ i → i + d = l.length →
    (Rg l i ∧ ¬ Ng kind l ∧ imageeditorref18_numbers.l0 (k + d + 1) kind l (l.length : Int) i = some 0) ∨ (¬ (Rg l i ∧ ¬ Ng kind l) ∧ imageeditorref18_numbers.l0 (k + d + 1) kind l (l.length : Int) i = some 2) := by
  induction d with
  | zero =>
    intro k i h0 h1
    obtain rfl : i = l.length := by omega
    simp only [imageeditorref18_numbers.l0]
    rw [if_neg (by omega)]
    have R : Rg l (l.length : Int) := fun j a b => by omega
    by_cases h2 : kind = 2
    · rw [if_pos h2, if_pos (by omega)]
      by_cases h : rd l 2 < 0
      · rw [if_pos h]; exact .inr ⟨fun g => g.2 ⟨.inl h2, h⟩, rfl⟩
      · rw [if_neg h]; exact .inl ⟨R, fun g => h g.2, rfl⟩
    · rw [if_neg h2]
      by_cases h4 : kind = 4
      · rw [if_pos h4, if_pos (by omega)]
        by_cases h : rd l 2 < 0
        · rw [if_pos h]; exact .inr ⟨fun g => g.2 ⟨.inr h4, h⟩, rfl⟩
        · rw [if_neg h]; exact .inl ⟨R, fun g => h g.2, rfl⟩
      · rw [if_neg h4]; exact .inl ⟨R, fun g => by have := g.1; omega, rfl⟩
  | succ d ih =>
    intro k i h0 h1
    rw [show k + (d + 1) + 1 = k + d + 1 + 1 by omega, imageeditorref18_numbers.l0]
    rw [if_pos (by omega), if_pos h0, if_pos (by omega), w_in (n := i + 1) (by omega) (by omega)]
    by_cases c1 : rd l i < -1048576
    · rw [if_pos c1]; exact .inr ⟨fun g => by have := g.1 i (Int.le_refl _) (by omega); omega, rfl⟩
    rw [if_neg c1]
    by_cases c2 : rd l i > 1048576
    · rw [if_pos c2]; exact .inr ⟨fun g => by have := g.1 i (Int.le_refl _) (by omega); omega, rfl⟩
    rw [if_neg c2]
    rcases ih k (i + 1) (by omega) (by omega) with ⟨g, n, e⟩ | ⟨g, e⟩
    · exact .inl ⟨rg_cons ⟨by omega, by omega⟩ g, n, e⟩
    · exact .inr ⟨fun h => g ⟨rg_tail h.1, h.2⟩, e⟩
theorem numbers_some (k : Nat) (kind : Int) (l : List Int) (hL : Lok kind l) : (Vok kind l ∧ imageeditorref18_numbers.f (k + 5) kind l = some 0) ∨ (¬ Vok kind l ∧ imageeditorref18_numbers.f (k + 5) kind l = some 2) := by
  have hw' : (l.length : Int) = 3 ∨ (l.length : Int) = 4 := by
    by_cases h : kind = 1
    · exact .inr (hL.1 h)
    · exact .inl (hL.2 h)
  obtain ⟨d, k', e, hd⟩ : ∃ (d k' : Nat), k + 5 = k' + d + 1 ∧ (0 : Int) + d = l.length := by
    rcases hw' with h | h
    · exact ⟨3, k + 1, by omega, by omega⟩
    · exact ⟨4, k, by omega, by omega⟩
  unfold imageeditorref18_numbers.f Vok
  rw [e]
  rcases numbers_l kind l (by omega) (by omega) d k' 0 (Int.le_refl _) hd with ⟨g, n, h⟩ | ⟨g, h⟩
  · exact .inl ⟨⟨g, n⟩, h⟩
  · exact .inr ⟨g, h⟩
end Go.Proofs.Ytmlcobnidfkhfaa.Q
