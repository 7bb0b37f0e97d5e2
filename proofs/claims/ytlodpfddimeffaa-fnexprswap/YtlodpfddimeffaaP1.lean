import Derived.Test.YtlodpfddimeffaaM0
namespace Go.Proofs.Ytlodpfddimeffaa.M
open Go.RowKit Go.Proofs.YtlodpfddimeffaaW.PrintWords Go.Proofs.YtlodpfddimeffaaW.PrintLast Go.Proofs.YtlodpfddimeffaaW.PrintMore
attribute [local go_sem] max2_int min2_int max_two min_two max_three min_three max_four min_four
attribute [local go_sem high] eqA31
attribute [local go_sem] fld31_0 fld31_1 fld25_0 fld25_1 fld25_2 fld25_3
set_option linter.unusedVariables false
set_option linter.unusedSimpArgs false
/-- A number that fits stays as it is. -/
theorem w64 {x : Int} (h1 : -9223372036854775808 ≤ x) (h2 : x ≤ 9223372036854775807) : wrap64 x = x := by unfold wrap64; omega
theorem mul_bd {a b A B : Int} (h1 : -A ≤ a) (h2 : a ≤ A) (h3 : -B ≤ b) (h4 : b ≤ B) : -(A * B) ≤ a * b ∧ a * b ≤ A * B := by
 have p1 : 0 ≤ (A - a) * (B + b) := Int.mul_nonneg (by omega) (by omega)
 have p2 : 0 ≤ (A + a) * (B - b) := Int.mul_nonneg (by omega) (by omega)
 have p3 : 0 ≤ (A - a) * (B - b) := Int.mul_nonneg (by omega) (by omega)
 have p4 : 0 ≤ (A + a) * (B + b) := Int.mul_nonneg (by omega) (by omega)
 constructor <;> grind
theorem sq_bd {a A : Int} (h1 : -A ≤ a) (h2 : a ≤ A) : 0 ≤ a * a ∧ a * a ≤ A * A := by
 have := mul_bd h1 h2 h1 h2
 have h : 0 ≤ a * a := by
  rcases Int.le_total 0 a with h | h
  ·exact Int.mul_nonneg h h
  ·have := Int.mul_nonneg (show 0 ≤ -a by omega) (show 0 ≤ -a by omega); grind
 exact ⟨h, this.2⟩
theorem sq_lt {a b : Int} (ha : 0 ≤ a) (hb : 0 ≤ b) (h : a * a < b * b) : a < b := by
 rcases Int.lt_or_le a b with h1 | h1
 ·exact h1
 ·have := Int.mul_le_mul h1 h1 hb ha; omega
theorem sq_le {a b : Int} (ha : 0 ≤ a) (h : a ≤ b) : a * a ≤ b * b := Int.mul_le_mul h h ha (by omega)
/-- The root: the greatest number whose square is not more. -/
def IsRoot (a r : Int) : Prop := 0 ≤ r ∧ r * r ≤ a ∧ a < (r + 1) * (r + 1)
theorem IsRoot.unique {a r s : Int} (h : IsRoot a r) (k : IsRoot a s) : r = s := by
 obtain ⟨h1, h2, h3⟩ := h
 obtain ⟨k1, k2, k3⟩ := k
 have := sq_lt h1 (show 0 ≤ s + 1 by omega) (by omega)
 have := sq_lt k1 (show 0 ≤ r + 1 by omega) (by omega)
 omega
theorem IsRoot.le {a r B : Int} (h : IsRoot a r) (hB : 0 ≤ B) (ha : a ≤ B * B) : r ≤ B := by
 rcases Int.lt_or_le B r with h1 | h1
 ·have := sq_le (show 0 ≤ B + 1 by omega) (show B + 1 ≤ r by omega)
  have e : (B + 1) * (B + 1) = B * B + 2 * B + 1 := by grind
  have := h.2.1
  omega
 ·exact h1
/-! ### a rotation, step by step, in rational numbers -/
/-- j steps of the rotation by (c, s). -/
def rotc (c s : Rat) : Nat → Rat × Rat
 | 0 => (1, 0)
 | j + 1 => (c * (rotc c s j).1 - s * (rotc c s j).2, c * (rotc c s j).2 + s * (rotc c s j).1)
section
variable {c s : Rat}
theorem rot_add (i j : Nat) : (rotc c s (i + j)).1 = (rotc c s i).1 * (rotc c s j).1 - (rotc c s i).2 * (rotc c s j).2 ∧
  (rotc c s (i + j)).2 = (rotc c s i).2 * (rotc c s j).1 + (rotc c s i).1 * (rotc c s j).2 := by
 induction j with
 | zero => simp [rotc]; grind
 | succ j ih =>
  obtain ⟨h1, h2⟩ := ih
  rw [← Nat.add_assoc]
  simp only [rotc]
  rw [h1, h2]
  constructor <;> grind
theorem rot_unit (hu : c * c + s * s = 1) (j : Nat) : (rotc c s j).1 * (rotc c s j).1 + (rotc c s j).2 * (rotc c s j).2 = 1 := by
 induction j with
 | zero => simp [rotc]; grind
 | succ j ih => simp only [rotc]; grind
theorem Rat.sq_nonneg (a : Rat) : 0 ≤ a * a := by
 rcases Rat.le_total (a := 0) (b := a) with h | h
 ·exact Rat.mul_nonneg h h
 ·have := Rat.mul_nonneg (show 0 ≤ -a by grind) (show 0 ≤ -a by grind); grind
theorem Rat.le_one_of_sq {a b : Rat} (h : a * a + b * b = 1) : a ≤ 1 ∧ -1 ≤ a := by
 have hb := Rat.sq_nonneg b
 constructor
 ·rcases Rat.le_total (a := a) (b := 1) with h1 | h1
  ·exact h1
  ·have := Rat.mul_nonneg (show 0 ≤ a - 1 by grind) (show 0 ≤ a + 1 by grind)
   have e : a = 1 ∨ 1 < a := by grind
   rcases e with e | e
   ·grind
   ·have := Rat.mul_pos (show 0 < a - 1 by grind) (show 0 < a + 1 by grind); grind
 ·rcases Rat.le_total (a := -1) (b := a) with h1 | h1
  ·exact h1
  ·have e : a = -1 ∨ a < -1 := by grind
   rcases e with e | e
   ·grind
   ·have := Rat.mul_pos (show 0 < -a - 1 by grind) (show 0 < 1 - a by grind); grind
end
/-! ### the row of terms -/
def sg : Nat → Rat
 | 0 => 1
 | n + 1 => -sg n
theorem sg_or (n : Nat) : sg n = 1 ∨ sg n = -1 := by
 induction n with
 | zero => exact .inl rfl
 | succ n ih => simp only [sg]; rcases ih with h | h <;> rw [h] <;> grind
/-- s^k times j over k. -/
def tay (s : Rat) : Nat → Nat → Rat
 | 0, _ => 1
 | _ + 1, 0 => 0
 | k + 1, j + 1 => tay s (k + 1) j + s * tay s k j
def PS (s : Rat) : Nat → Nat → Rat
 | 0, _ => 0
 | n + 1, j => PS s n j + sg n * tay s (2 * n + 1) j
def PC (s : Rat) : Nat → Nat → Rat
 | 0, _ => 0
 | n + 1, j => PC s n j + sg n * tay s (2 * n) j
section
variable {c s : Rat}
theorem tay_zero (k : Nat) : tay s (k + 1) 0 = 0 := by simp [tay]
theorem tay_nonneg (hs : 0 ≤ s) (j : Nat) : ∀ k, 0 ≤ tay s k j := by
 induction j with
 | zero => intro k; cases k <;> simp [tay] <;> grind
 | succ j ih =>
  intro k
  cases k with
  | zero => simp [tay]; grind
  | succ k => simp only [tay]; have := Rat.mul_nonneg hs (ih k); have := ih (k + 1); grind
theorem tay_step (j : Nat) : ∀ k, tay s (k + 1) j * ((k : Rat) + 1) = tay s k j * (s * ((j : Rat) - (k : Rat))) := by
 induction j with
 | zero =>
  intro k
  cases k with
  | zero => simp [tay]; grind
  | succ k => simp [tay]
 | succ j ih =>
  intro k
  have ej : ((j + 1 : Nat) : Rat) = (j : Rat) + 1 := by simp
  cases k with
  | zero =>
   have h := ih 0
   simp only [tay] at h ⊢
   rw [ej]; simp at h ⊢; grind
  | succ k =>
   have h := ih (k + 1)
   have h2 := ih k
   have ek : ((k + 1 : Nat) : Rat) = (k : Rat) + 1 := by simp
   simp only [tay] at h ⊢
   rw [ej, ek] at *
   grind
theorem PS_step (n j : Nat) : PS s n (j + 1) = PS s n j + s * PC s n j := by
 induction n with
 | zero => simp [PS, PC]; grind
 | succ n ih => simp only [PS, PC, tay]; rw [ih]; grind
theorem PC_step (n j : Nat) : PC s (n + 1) (j + 1) = PC s (n + 1) j - s * PS s n j := by
 induction n with
 | zero => simp [PS, PC, tay]; grind
 | succ n ih =>
  rw [PC, ih]
  have e : PC s (n + 1 + 1) j = PC s (n + 1) j + sg (n + 1) * tay s (2 * (n + 1)) j := rfl
  have e2 : PS s (n + 1) j = PS s n j + sg n * tay s (2 * n + 1) j := rfl
  have e3 : tay s (2 * (n + 1)) (j + 1) = tay s (2 * (n + 1)) j + s * tay s (2 * n + 1) j := rfl
  rw [e, e2, e3]; simp only [sg]; grind
theorem PS_zero (n : Nat) : PS s n 0 = 0 := by
 induction n with
 | zero => rfl
 | succ n ih => simp only [PS, tay]; rw [ih]; grind
theorem PC_zero (n : Nat) : PC s (n + 1) 0 = 1 := by
 induction n with
 | zero => simp [PC, tay, sg]; grind
 | succ n ih => rw [PC, ih, show 2 * (n + 1) = 2 * n + 1 + 1 from rfl]; simp only [tay]; grind
/-- As long as s times j is at most one, both are above 0, and near what they begin as. -/
theorem rot_low (hu : c * c + s * s = 1) (hs : 0 ≤ s) (hc : c ≤ 1) (hc0 : 0 ≤ c) (hk : 4 * (1 - c) ≤ s) (j : Nat) (hj : s * (j : Rat) ≤ 1) :
  0 ≤ (rotc c s j).2 ∧ (rotc c s j).2 ≤ s * (j : Rat) ∧ 1 - s * (j : Rat) * (s * (j : Rat)) / 2 - (1 - c) * (j : Rat) ≤ (rotc c s j).1 ∧ 1 / 4 ≤ (rotc c s j).1 := by
 induction j with
 | zero => simp [rotc]; grind
 | succ j ih =>
  have ej : ((j + 1 : Nat) : Rat) = (j : Rat) + 1 := by simp
  have j0 : (0 : Rat) ≤ (j : Rat) := Rat.natCast_nonneg
  rw [ej] at hj ⊢
  have hj' : s * (j : Rat) ≤ 1 := by grind
  obtain ⟨h1, h2, h3, h4⟩ := ih hj'
  have u := Rat.le_one_of_sq (rot_unit hu j)
  simp only [rotc]
  generalize (rotc c s j).1 = C at *
  generalize (rotc c s j).2 = S at *
  generalize (j : Rat) = y at *
  have sj : 0 ≤ s * y := Rat.mul_nonneg hs j0
  have a1 : 0 ≤ c * S := Rat.mul_nonneg hc0 h1
  have a2 : 0 ≤ s * C := Rat.mul_nonneg hs (by grind)
  have a3 : (1 - c) * C ≤ (1 - c) * 1 := Rat.mul_le_mul_of_nonneg_left u.1 (by grind)
  have a4 : s * S ≤ s * (s * y) := Rat.mul_le_mul_of_nonneg_left h2 hs
  have a5 : 0 ≤ (1 - c) * S := Rat.mul_nonneg (by grind) h1
  have a6 : s * C ≤ s * 1 := Rat.mul_le_mul_of_nonneg_left u.1 hs
  have a7 : 0 ≤ s * s := Rat.mul_nonneg hs hs
  have b1 : 1 - s * (y + 1) * (s * (y + 1)) / 2 - (1 - c) * (y + 1) ≤ c * C - s * S := by grind
  refine ⟨by grind, by grind, b1, ?_⟩
  have sy : 0 ≤ s * (y + 1) := by grind
  have b2 : s * (y + 1) * (s * (y + 1)) ≤ 1 * 1 := by
   have p := Rat.mul_le_mul_of_nonneg_left hj sy
   grind
  have b3 : 4 * (1 - c) * (y + 1) ≤ s * (y + 1) := Rat.mul_le_mul_of_nonneg_right hk (by grind)
  grind
/-- Both lie between the rows, by turns. -/
theorem rot_rows (hu : c * c + s * s = 1) (hs : 0 ≤ s) (hc : c ≤ 1) (hc0 : 0 ≤ c) (hk : 4 * (1 - c) ≤ s) (n : Nat) : ∀ j : Nat, s * (j : Rat) ≤ 1 →
  -((1 - c) * ((j : Rat) + s * (j : Rat) * (j : Rat))) ≤ sg n * ((rotc c s j).2 - PS s n j) ∧ -((1 - c) * ((j : Rat) + s * (j : Rat) * (j : Rat))) ≤ sg n * ((rotc c s j).1 - PC s n j) := by
 have k0 : 0 ≤ 1 - c := by grind
 have jnn : ∀ j : Nat, (0 : Rat) ≤ (j : Rat) := fun j => Rat.natCast_nonneg
 have enn : ∀ j : Nat, 0 ≤ (1 - c) * ((j : Rat) + s * (j : Rat) * (j : Rat)) := fun j =>
  Rat.mul_nonneg k0 (by have := Rat.mul_nonneg (Rat.mul_nonneg hs (jnn j)) (jnn j); have := jnn j; grind)
 -- the step of both sums: a sum whose growth is known
 have grow : ∀ (D : Nat → Rat), 0 ≤ D 0 → (∀ j : Nat, s * (j : Rat) ≤ 1 → D j - s * ((1 - c) * ((j : Rat) + s * (j : Rat) * (j : Rat))) - (1 - c) ≤ D (j + 1)) →
   ∀ j : Nat, s * (j : Rat) ≤ 1 → -((1 - c) * ((j : Rat) + s * (j : Rat) * (j : Rat))) ≤ D j := by
  intro D h0 hD j
  induction j with
  | zero => intro _; simp; grind
  | succ j ih =>
   intro hj
   have ej : ((j + 1 : Nat) : Rat) = (j : Rat) + 1 := by simp
   rw [ej] at hj ⊢
   have hj' : s * (j : Rat) ≤ 1 := by grind
   have a := ih hj'
   have b := hD j hj'
   have y0 := jnn j
   generalize (j : Rat) = y at *
   generalize 1 - c = κ at *
   have sy : 0 ≤ s * y := Rat.mul_nonneg hs y0
   have p1 : 0 ≤ κ * s := Rat.mul_nonneg k0 hs
   have p2 : 0 ≤ κ * s * y := Rat.mul_nonneg p1 y0
   have p3 : κ * s * y * (s * y) ≤ κ * s * y * 1 := Rat.mul_le_mul_of_nonneg_left hj' p2
   grind
 induction n with
 | zero =>
  intro j hj
  obtain ⟨h1, h2, h3, h4⟩ := rot_low hu hs hc hc0 hk j hj
  have := enn j
  simp only [sg, PS, PC]
  constructor <;> grind
 | succ n ih =>
  have hC : ∀ j : Nat, s * (j : Rat) ≤ 1 → -((1 - c) * ((j : Rat) + s * (j : Rat) * (j : Rat))) ≤ sg (n + 1) * ((rotc c s j).1 - PC s (n + 1) j) := by
   refine grow (fun j => sg (n + 1) * ((rotc c s j).1 - PC s (n + 1) j)) (by rw [PC_zero]; simp only [rotc]; grind) ?_
   intro j hj
   have a := (ih j hj).1
   have u := Rat.le_one_of_sq (rot_unit hu j)
   have p := Rat.mul_le_mul_of_nonneg_left a hs
   rw [PC_step]
   simp only [rotc, sg]
   generalize (rotc c s j).1 = C at *
   generalize (rotc c s j).2 = S at *
   have q1 : (1 - c) * C ≤ (1 - c) * 1 := Rat.mul_le_mul_of_nonneg_left u.1 k0
   have q2 : (1 - c) * (-1) ≤ (1 - c) * C := Rat.mul_le_mul_of_nonneg_left u.2 k0
   have eC : sg (n + 1) = -sg n := rfl
   clear ih grow enn jnn hj
   generalize (1 - c) * ((j : Rat) + s * (j : Rat) * (j : Rat)) = E at *
   rcases sg_or n with h | h <;> rw [h] at a p ⊢ <;> grind
  have hS : ∀ j : Nat, s * (j : Rat) ≤ 1 → -((1 - c) * ((j : Rat) + s * (j : Rat) * (j : Rat))) ≤ sg (n + 1) * ((rotc c s j).2 - PS s (n + 1) j) := by
   refine grow (fun j => sg (n + 1) * ((rotc c s j).2 - PS s (n + 1) j)) (by rw [PS_zero]; simp only [rotc]; grind) ?_
   intro j hj
   have a := hC j hj
   have u := Rat.le_one_of_sq (a := (rotc c s j).2) (b := (rotc c s j).1) (by have := rot_unit hu j; grind)
   have p := Rat.mul_le_mul_of_nonneg_left a hs
   rw [PS_step]
   simp only [rotc, sg] at *
   generalize (rotc c s j).1 = C at *
   generalize (rotc c s j).2 = S at *
   have q1 : (1 - c) * S ≤ (1 - c) * 1 := Rat.mul_le_mul_of_nonneg_left u.1 k0
   have q2 : (1 - c) * (-1) ≤ (1 - c) * S := Rat.mul_le_mul_of_nonneg_left u.2 k0
   clear ih grow enn jnn hj hC
   generalize (1 - c) * ((j : Rat) + s * (j : Rat) * (j : Rat)) = E at *
   rcases sg_or n with h | h <;> rw [h] at a p ⊢ <;> grind
  exact fun j hj => ⟨hS j hj, hC j hj⟩
end
/-! ### the same rows, of a number -/
def pw (y : Rat) : Nat → Rat
 | 0 => 1
 | k + 1 => pw y k * y / ((k : Rat) + 1)
def QS (y : Rat) : Nat → Rat
 | 0 => 0
 | n + 1 => QS y n + sg n * pw y (2 * n + 1)
def QC (y : Rat) : Nat → Rat
 | 0 => 0
 | n + 1 => QC y n + sg n * pw y (2 * n)
theorem pw_bd {y : Rat} (h0 : 0 ≤ y) (h1 : y ≤ 1) (k : Nat) : 0 ≤ pw y k ∧ pw y k ≤ 1 := by
 induction k with
 | zero => simp [pw]; grind
 | succ k ih =>
  simp only [pw]
  have kp : (0 : Rat) < (k : Rat) + 1 := by have : (0 : Rat) ≤ (k : Rat) := Rat.natCast_nonneg; grind
  have p := Rat.mul_nonneg ih.1 h0
  have q : pw y k * y ≤ 1 * 1 := by
   have a := Rat.mul_le_mul_of_nonneg_left h1 ih.1
   grind
  have e : pw y k * y / ((k : Rat) + 1) * ((k : Rat) + 1) = pw y k * y := Rat.div_mul_cancel (by grind)
  constructor
  ·refine Rat.le_of_mul_le_mul_right ?_ kp
   rw [e]; grind
  ·refine Rat.le_of_mul_le_mul_right ?_ kp
   rw [e]; have : (0 : Rat) ≤ (k : Rat) := Rat.natCast_nonneg; grind
theorem pw_step (y : Rat) (k : Nat) : pw y (k + 1) * ((k : Rat) + 1) = pw y k * y := by
 have : (0 : Rat) ≤ (k : Rat) := Rat.natCast_nonneg
 simp only [pw]
 exact Rat.div_mul_cancel (by grind)
theorem tay_near {s y : Rat} (hs : 0 ≤ s) (h0 : 0 ≤ y) (h1 : y ≤ 1) (j : Nat) (hj : s * (j : Rat) ≤ 1) (hy1 : s * (j : Rat) - y ≤ s) (hy2 : y - s * (j : Rat) ≤ s) (k : Nat) (hk : s * (k : Rat) ≤ 1) :
  tay s k j - pw y k ≤ s * (k : Rat) ∧ pw y k - tay s k j ≤ s * (k : Rat) := by
 induction k with
 | zero => simp [tay, pw]; grind
 | succ k ih =>
  have ek : ((k + 1 : Nat) : Rat) = (k : Rat) + 1 := by simp
  rw [ek] at hk ⊢
  obtain ⟨a, b⟩ := ih (by grind)
  have k0 : (0 : Rat) ≤ (k : Rat) := Rat.natCast_nonneg
  have j0 : (0 : Rat) ≤ (j : Rat) := Rat.natCast_nonneg
  have e1 := tay_step (s := s) j k
  have e2 := pw_step y k
  have p := pw_bd h0 h1 k
  have sj : 0 ≤ s * (j : Rat) := Rat.mul_nonneg hs j0
  have sk : 0 ≤ s * (k : Rat) := Rat.mul_nonneg hs k0
  generalize tay s (k + 1) j = T' at *
  generalize tay s k j = T at *
  generalize pw y (k + 1) = Y' at *
  generalize pw y k = Y at *
  generalize (k : Rat) = q at *
  generalize (j : Rat) = u at *
  -- (T' - Y') (q + 1) = (T - Y) (s u - s q) + Y (s u - s q - y)
  have E : (T' - Y') * (q + 1) = (T - Y) * (s * u - s * q) + Y * (s * u - s * q - y) := by grind
  have m1 : -1 ≤ s * u - s * q := by grind
  have m2 : s * u - s * q ≤ 1 := by grind
  -- |T - Y| <= s q, |s u - s q| <= 1
  have d1 : (T - Y) * (s * u - s * q) ≤ s * q := by
   have x1 := Rat.mul_nonneg (show 0 ≤ s * q - (T - Y) by grind) (show 0 ≤ 1 + (s * u - s * q) by grind)
   have x2 := Rat.mul_nonneg (show 0 ≤ s * q + (T - Y) by grind) (show 0 ≤ 1 - (s * u - s * q) by grind)
   grind
  have d2 : -(s * q) ≤ (T - Y) * (s * u - s * q) := by
   have x1 := Rat.mul_nonneg (show 0 ≤ s * q - (T - Y) by grind) (show 0 ≤ 1 - (s * u - s * q) by grind)
   have x2 := Rat.mul_nonneg (show 0 ≤ s * q + (T - Y) by grind) (show 0 ≤ 1 + (s * u - s * q) by grind)
   grind
  have d3 : Y * (s * u - s * q - y) ≤ s * (q + 1) := by
   have x1 := Rat.mul_nonneg p.1 (show 0 ≤ s - (s * u - y) by grind)
   have x2 := Rat.mul_nonneg p.1 sk
   have x3 := Rat.mul_nonneg (show 0 ≤ 1 - Y by grind) hs
   grind
  have d4 : -(s * (q + 1)) ≤ Y * (s * u - s * q - y) := by
   have x1 := Rat.mul_nonneg p.1 (show 0 ≤ s + (s * u - y) by grind)
   have x2 := Rat.mul_nonneg (show 0 ≤ 1 - Y by grind) sk
   have x3 := Rat.mul_nonneg (show 0 ≤ 1 - Y by grind) hs
   grind
  have qp : 0 < q + 1 := by grind
  have sqq : 0 ≤ s * q * q := Rat.mul_nonneg sk k0
  constructor
  ·refine Rat.le_of_mul_le_mul_right ?_ qp
   grind
  ·refine Rat.le_of_mul_le_mul_right ?_ qp
   grind
theorem rows_near {s y : Rat} (hs : 0 ≤ s) (h0 : 0 ≤ y) (h1 : y ≤ 1) (j : Nat) (hj : s * (j : Rat) ≤ 1) (hy1 : s * (j : Rat) - y ≤ s) (hy2 : y - s * (j : Rat) ≤ s) (n : Nat) (hn : s * (2 * (n : Rat)) ≤ 1) :
  (PS s n j - QS y n ≤ s * ((n : Rat) * (n : Rat)) ∧ QS y n - PS s n j ≤ s * ((n : Rat) * (n : Rat))) ∧ (PC s n j - QC y n ≤ s * ((n : Rat) * (n : Rat)) ∧ QC y n - PC s n j ≤ s * ((n : Rat) * (n : Rat))) := by
 induction n with
 | zero => simp [PS, PC, QS, QC]; grind
 | succ n ih =>
  have en : ((n + 1 : Nat) : Rat) = (n : Rat) + 1 := by simp
  rw [en] at hn ⊢
  have n0 : (0 : Rat) ≤ (n : Rat) := Rat.natCast_nonneg
  have sn : 0 ≤ s * (n : Rat) := Rat.mul_nonneg hs n0
  obtain ⟨⟨a1, a2⟩, a3, a4⟩ := ih (by grind)
  have e1 : ((2 * n + 1 : Nat) : Rat) = 2 * (n : Rat) + 1 := by simp
  have e2 : ((2 * n : Nat) : Rat) = 2 * (n : Rat) := by simp
  have b := tay_near hs h0 h1 j hj hy1 hy2 (2 * n + 1) (by rw [e1]; grind)
  have d := tay_near hs h0 h1 j hj hy1 hy2 (2 * n) (by rw [e2]; grind)
  rw [e1] at b
  rw [e2] at d
  simp only [PS, PC, QS, QC]
  generalize PS s n j = P1 at *
  generalize PC s n j = P2 at *
  generalize QS y n = Q1 at *
  generalize QC y n = Q2 at *
  generalize tay s (2 * n + 1) j = T1 at *
  generalize tay s (2 * n) j = T2 at *
  generalize pw y (2 * n + 1) = Y1 at *
  generalize pw y (2 * n) = Y2 at *
  generalize (n : Rat) = q at *
  rcases sg_or n with h | h <;> rw [h] <;> refine ⟨⟨?_, ?_⟩, ?_, ?_⟩ <;> grind
/-! ### the rotation by one half of a part, in 10^25 steps -/
/-- The tangent of half a step: an eighth of a turn (0.78539816..) over twice 324 * 10^30 steps. -/
def tr : Rat := 7853981633974483096156608458198757210493 / 6480000000000000000000000000000000000000000000000000000000000000000000000
def cr : Rat := (1 - tr * tr) / (1 + tr * tr)
def sr : Rat := 2 * tr / (1 + tr * tr)
theorem cr_unit : cr * cr + sr * sr = 1 := by decide +kernel
theorem sr_pos : 0 < sr := by decide +kernel
theorem cr_le : cr ≤ 1 := by decide +kernel
theorem cr_pos : 0 ≤ cr := by decide +kernel
theorem cr_near : 4 * (1 - cr) ≤ sr := by decide +kernel
theorem cr_near2 : 1 - cr ≤ sr * sr := by decide +kernel
theorem sr_small : sr * 1000000000000000000000000000000 ≤ 1 / 400 := by decide +kernel
theorem sr_arc_low : 785398163 / 1000000000 ≤ sr * 324000000000000000000000000000000 := by decide +kernel
theorem sr_arc_high : sr * 324000000000000000000000000000000 ≤ 785398164 / 1000000000 := by decide +kernel
/-- An eighth of a turn. -/
def y0 : Rat := 7853981633974483096156608458198757210493 / 10000000000000000000000000000000000000000
theorem y0_near : sr * 324000000000000000000000000000000 - y0 ≤ sr ∧ y0 - sr * 324000000000000000000000000000000 ≤ sr := by decide +kernel
theorem y0_rows : QC y0 15 - QS y0 14 ≤ 1 / 100000000000000000000000000000 ∧ QS y0 15 - QC y0 14 ≤ 1 / 100000000000000000000000000000 := by decide +kernel
/-- sine and cosine behind j steps -/
def S0 (j : Nat) : Rat := (rotc cr sr j).2
def C0 (j : Nat) : Rat := (rotc cr sr j).1
theorem near0 {y : Rat} (h0 : 0 ≤ y) (h1 : y ≤ 1) (j : Nat) (hj : sr * (j : Rat) ≤ 1) (hy1 : sr * (j : Rat) - y ≤ sr) (hy2 : y - sr * (j : Rat) ≤ sr) (n : Nat) (hn : n ≤ 20) :
  -(1 / 500000000000000000000000000000) ≤ sg n * (S0 j - QS y n) ∧ -(1 / 500000000000000000000000000000) ≤ sg n * (C0 j - QC y n) := by
 have sp := sr_pos
 have hs : 0 ≤ sr := by grind
 have ss := sr_small
 have nn : (n : Rat) ≤ 20 := by exact_mod_cast hn
 have n0 : (0 : Rat) ≤ (n : Rat) := Rat.natCast_nonneg
 have hn2 : (n : Rat) * (n : Rat) ≤ 400 := by
  have a := Rat.mul_le_mul_of_nonneg_left nn n0
  grind
 have a := rot_rows cr_unit hs cr_le cr_pos cr_near n j hj
 have b := rows_near hs h0 h1 j hj hy1 hy2 n (by
  have := Rat.mul_le_mul_of_nonneg_left nn hs
  grind)
 have k := cr_near2
 have k0 : 0 ≤ 1 - cr := by have := cr_le; grind
 have j0 : (0 : Rat) ≤ (j : Rat) := Rat.natCast_nonneg
 have sj : 0 ≤ sr * (j : Rat) := Rat.mul_nonneg hs j0
 -- (1 - c) j <= s s j <= s; (1 - c) s j j <= s
 have p1 : (1 - cr) * (j : Rat) ≤ sr * sr * (j : Rat) := Rat.mul_le_mul_of_nonneg_right k j0
 have p2 : sr * (sr * (j : Rat)) ≤ sr * 1 := Rat.mul_le_mul_of_nonneg_left hj hs
 have p3 : 0 ≤ (1 - cr) * (j : Rat) := Rat.mul_nonneg k0 j0
 have p4 : (1 - cr) * (j : Rat) * (sr * (j : Rat)) ≤ (1 - cr) * (j : Rat) * 1 := Rat.mul_le_mul_of_nonneg_left hj p3
 have e : (1 - cr) * ((j : Rat) + sr * (j : Rat) * (j : Rat)) ≤ 2 * sr := by grind
 have q : sr * ((n : Rat) * (n : Rat)) ≤ sr * 400 := Rat.mul_le_mul_of_nonneg_left hn2 hs
 obtain ⟨a1, a2⟩ := a
 obtain ⟨⟨b1, b2⟩, b3, b4⟩ := b
 unfold S0 C0
 clear p1 p2 p3 p4 k k0 sj j0 hn2 hj hy1 hy2 n0 nn
 generalize (1 - cr) * ((j : Rat) + sr * (j : Rat) * (j : Rat)) = E at *
 generalize sr * ((n : Rat) * (n : Rat)) = D at *
 generalize (rotc cr sr j).1 = C at *
 generalize (rotc cr sr j).2 = S at *
 generalize PS sr n j = P1 at *
 generalize PC sr n j = P2 at *
 generalize QS y n = Q1 at *
 generalize QC y n = Q2 at *
 generalize sr = s at *
 rcases sg_or n with h | h <;> rw [h] at a1 a2 ⊢ <;> constructor <;> grind
theorem low0 (j : Nat) (hj : sr * (j : Rat) ≤ 1) : 0 ≤ S0 j ∧ 1 / 4 ≤ C0 j ∧ S0 j ≤ 1 ∧ C0 j ≤ 1 := by
 have sp := sr_pos
 have a := rot_low cr_unit (by grind) cr_le cr_pos cr_near j hj
 have u := rot_unit cr_unit j
 have u1 := Rat.le_one_of_sq u
 have u2 := Rat.le_one_of_sq (a := (rotc cr sr j).2) (b := (rotc cr sr j).1) (by grind)
 exact ⟨a.1, a.2.2.2, u2.1, u1.1⟩
theorem unit0 (j : Nat) : C0 j * C0 j + S0 j * S0 j = 1 := rot_unit cr_unit j
/-- Up to an arc of one the sine grows, the cosine falls; by how much. -/
theorem grow0 (i d : Nat) (hj : sr * ((i + d : Nat) : Rat) ≤ 1) : S0 i + sr / 8 * (d : Rat) ≤ S0 (i + d) ∧ C0 (i + d) ≤ C0 i := by
 have sp := sr_pos
 induction d with
 | zero => simp; grind
 | succ d ih =>
  have e : ((i + (d + 1) : Nat) : Rat) = ((i + d : Nat) : Rat) + 1 := by rw [← Nat.add_assoc]; simp
  have e2 : ((d + 1 : Nat) : Rat) = (d : Rat) + 1 := by simp
  rw [e] at hj
  have a := ih (by grind)
  have b := low0 (i + d) (by grind)
  have c1 := cr_near
  have c2 := cr_le
  have c3 := cr_near2
  have ss := sr_small
  rw [e2, ← Nat.add_assoc]
  have r1 : S0 (i + d + 1) = cr * S0 (i + d) + sr * C0 (i + d) := rfl
  have r2 : C0 (i + d + 1) = cr * C0 (i + d) - sr * S0 (i + d) := rfl
  rw [r1, r2]
  generalize S0 (i + d) = S at *
  generalize C0 (i + d) = C at *
  generalize S0 i = Si at *
  generalize C0 i = Ci at *
  generalize (d : Rat) = u at *
  have p1 : sr * (1 / 4) ≤ sr * C := Rat.mul_le_mul_of_nonneg_left b.2.1 (by grind)
  have p2 : (1 - cr) * S ≤ (1 - cr) * 1 := Rat.mul_le_mul_of_nonneg_left b.2.2.1 (by grind)
  have p3 : 0 ≤ sr * S := Rat.mul_nonneg (by grind) b.1
  have p4 : 0 ≤ (1 - cr) * C := Rat.mul_nonneg (by grind) (by grind)
  have p5 : sr * sr ≤ sr * (1 / 8) := Rat.mul_le_mul_of_nonneg_left (by grind) (by grind)
  constructor <;> grind
theorem mono0 {i j : Nat} (h : i ≤ j) (hj : sr * (j : Rat) ≤ 1) : S0 i ≤ S0 j ∧ C0 j ≤ C0 i := by
 obtain ⟨d, rfl⟩ := Nat.exists_eq_add_of_le h
 have a := grow0 i d hj
 have sp := sr_pos
 have : (0 : Rat) ≤ sr / 8 * (d : Rat) := Rat.mul_nonneg (by grind) Rat.natCast_nonneg
 exact ⟨by grind, a.2⟩
theorem index0 {y : Rat} (hy : 0 ≤ y) : ∃ j : Nat, sr * (j : Rat) ≤ y ∧ y < sr * ((j + 1 : Nat) : Rat) := by
 have sp := sr_pos
 have e : y / sr * sr = y := Rat.div_mul_cancel (by grind)
 have h0 : 0 ≤ y / sr := by
  refine Rat.le_of_mul_le_mul_right ?_ sp
  rw [e]; grind
 have f0 : 0 ≤ (y / sr).floor := by
  have h := Rat.floor_monotone h0
  have e0 : (0 : Rat).floor = 0 := Rat.floor_intCast 0
  rw [e0] at h; exact h
 obtain ⟨j, hj⟩ := Int.eq_ofNat_of_zero_le f0
 have a := Rat.floor_le (y / sr)
 have b := Rat.lt_floor_add_one (y / sr)
 rw [hj] at a b
 have a' : (j : Rat) ≤ y / sr := by rw [← Rat.intCast_natCast]; exact a
 have b' : y / sr < (j : Rat) + 1 := by rw [← Rat.intCast_natCast]; rw [Rat.intCast_add] at b; exact b
 refine ⟨j, ?_, ?_⟩
 ·have := Rat.mul_le_mul_of_nonneg_right a' (show 0 ≤ sr by grind)
  grind
 ·have := Rat.mul_lt_mul_of_pos_right b' sp
  have e2 : ((j + 1 : Nat) : Rat) = (j : Rat) + 1 := by simp
  rw [e2]; grind
section
variable {y : Rat} (h0 : 0 ≤ y) (J : Nat) (n : Nat) (hn : n ≤ 20)
include h0 hn
theorem lowS (hy : y ≤ sr * (J : Rat)) (hJ : sr * (J : Rat) ≤ 1) (he : sg n = 1) : QS y n ≤ S0 J + 1 / 500000000000000000000000000000 := by
 obtain ⟨j, a, b⟩ := index0 h0
 have sp := sr_pos
 have ej : ((j + 1 : Nat) : Rat) = (j : Rat) + 1 := by simp
 rw [ej] at b
 have hjJ : j ≤ J := by
  have : (j : Rat) ≤ (J : Rat) := Rat.le_of_mul_le_mul_left (by grind) sp
  exact_mod_cast this
 have m := mono0 hjJ hJ
 have p := (near0 h0 (by grind) j (by grind) (by grind) (by grind) n hn).1
 rw [he] at p; grind
theorem highC (hy : y ≤ sr * (J : Rat)) (hJ : sr * (J : Rat) ≤ 1) (he : sg n = -1) : C0 J ≤ QC y n + 1 / 500000000000000000000000000000 := by
 obtain ⟨j, a, b⟩ := index0 h0
 have sp := sr_pos
 have ej : ((j + 1 : Nat) : Rat) = (j : Rat) + 1 := by simp
 rw [ej] at b
 have hjJ : j ≤ J := by
  have : (j : Rat) ≤ (J : Rat) := Rat.le_of_mul_le_mul_left (by grind) sp
  exact_mod_cast this
 have m := mono0 hjJ hJ
 have p := (near0 h0 (by grind) j (by grind) (by grind) (by grind) n hn).2
 rw [he] at p; grind
theorem highS (hy : sr * (J : Rat) ≤ y) (hJ : y ≤ 9 / 10) (he : sg n = -1) : S0 J ≤ QS y n + 1 / 500000000000000000000000000000 := by
 obtain ⟨j, a, b⟩ := index0 h0
 have sp := sr_pos
 have ss := sr_small
 have ej : ((j + 1 : Nat) : Rat) = (j : Rat) + 1 := by simp
 have hjJ : J ≤ j + 1 := by
  have : (J : Rat) ≤ ((j + 1 : Nat) : Rat) := Rat.le_of_mul_le_mul_left (by grind) sp
  exact_mod_cast this
 rw [ej] at b
 have m := mono0 hjJ (by rw [ej]; grind)
 have p := (near0 h0 (by grind) (j + 1) (by rw [ej]; grind) (by rw [ej]; grind) (by rw [ej]; grind) n hn).1
 rw [he] at p; grind
theorem lowC (hy : sr * (J : Rat) ≤ y) (hJ : y ≤ 9 / 10) (he : sg n = 1) : QC y n ≤ C0 J + 1 / 500000000000000000000000000000 := by
 obtain ⟨j, a, b⟩ := index0 h0
 have sp := sr_pos
 have ss := sr_small
 have ej : ((j + 1 : Nat) : Rat) = (j : Rat) + 1 := by simp
 have hjJ : J ≤ j + 1 := by
  have : (J : Rat) ≤ ((j + 1 : Nat) : Rat) := Rat.le_of_mul_le_mul_left (by grind) sp
  exact_mod_cast this
 rw [ej] at b
 have m := mono0 hjJ (by rw [ej]; grind)
 have p := (near0 h0 (by grind) (j + 1) (by rw [ej]; grind) (by rw [ej]; grind) (by rw [ej]; grind) n hn).2
 rw [he] at p; grind
end
/-! ### the row, in whole numbers -/
/-- rounded up -/
def upd (a b : Int) : Int := -((-a) / b)
theorem upd_ge {a b : Int} (hb : 0 < b) : a ≤ upd a b * b := by
 unfold upd
 have := Int.ediv_mul_le (-a) (show b ≠ 0 by omega)
 rw [Int.neg_mul]; omega
theorem upd_le {a b q : Int} (hb : 0 < b) (h : a ≤ q * b) : upd a b ≤ q := by
 unfold upd
 have : -q ≤ (-a) / b := by
  rw [Int.le_ediv_iff_mul_le hb, Int.neg_mul]; omega
 omega
theorem upd_nonneg {a b : Int} (hb : 0 < b) (h : 0 ≤ a) : 0 ≤ upd a b := by
 have h1 := upd_ge (a := a) hb
 rcases Int.lt_or_le (upd a b) 0 with h2 | h2
 ·have : upd a b * b ≤ -1 * b := Int.mul_le_mul_of_nonneg_right (by omega) (by omega)
  omega
 ·exact h2
theorem dn_le {a b : Int} (hb : 0 < b) : a / b * b ≤ a := Int.ediv_mul_le a (by omega)
def rowM : Nat → Int → Int → Int → Bool → Int → Int → Int → Int → Int × Int
 | 0, _, _, _, _, sl, sh, _, _ => (sl, sh)
 | k + 1, n, lo, hi, b, sl, sh, tl, th =>
  if th = 0 then (sl, sh) else
  if n < 40 then
   if upd (upd (th * hi) 1000000000) (n * (n + 1)) = 1 ∧ tl * lo / 1000000000 / (n * (n + 1)) = 0 then (sl - 1, sh + 1) else
   if b = true then rowM k (n + 2) lo hi (!b) (sl - upd (upd (th * hi) 1000000000) (n * (n + 1))) (sh - tl * lo / 1000000000 / (n * (n + 1))) (tl * lo / 1000000000 / (n * (n + 1))) (upd (upd (th * hi) 1000000000) (n * (n + 1)))
   else rowM k (n + 2) lo hi (!b) (sl + tl * lo / 1000000000 / (n * (n + 1))) (sh + upd (upd (th * hi) 1000000000) (n * (n + 1))) (tl * lo / 1000000000 / (n * (n + 1))) (upd (upd (th * hi) 1000000000) (n * (n + 1)))
  else (sl, sh)
def row (f x n : Int) : Int × Int := rowM 30 n (x * x / 1000000000) (upd (x * x) 1000000000) true f f f f
/-- One term's ends. -/
theorem term_lo {tl lo d : Int} {t y2 t' : Rat} (hd : 0 < d) (h0 : 0 ≤ tl) (hl : 0 ≤ lo) (ht : (tl : Rat) ≤ 1000000000 * t) (hlo : (lo : Rat) ≤ 1000000000 * y2) (he : t' * (d : Rat) = t * y2) :
  ((tl * lo / 1000000000 / d : Int) : Rat) ≤ 1000000000 * t' := by
 have a1 := dn_le (a := tl * lo) (b := 1000000000) (by omega)
 have a2 := dn_le (a := tl * lo / 1000000000) (b := d) hd
 have a3 : tl * lo / 1000000000 / d * d * 1000000000 ≤ tl * lo := by
  have := Int.mul_le_mul_of_nonneg_right a2 (show (0 : Int) ≤ 1000000000 by omega)
  omega
 generalize tl * lo / 1000000000 / d = q at *
 have a4 : ((q * d * 1000000000 : Int) : Rat) ≤ ((tl * lo : Int) : Rat) := Rat.intCast_le_intCast.2 a3
 have d0 : (0 : Rat) < (d : Rat) := Rat.intCast_pos.2 hd
 have l0 : (0 : Rat) ≤ (lo : Rat) := Rat.intCast_nonneg.2 hl
 have t0 : (0 : Rat) ≤ (tl : Rat) := Rat.intCast_nonneg.2 h0
 simp only [Rat.intCast_mul] at a4
 have e9 : ((1000000000 : Int) : Rat) = 1000000000 := by simp
 rw [e9] at a4
 have b1 : (tl : Rat) * (lo : Rat) ≤ (tl : Rat) * (1000000000 * y2) := Rat.mul_le_mul_of_nonneg_left hlo t0
 have b2 : (tl : Rat) * (1000000000 * y2) ≤ 1000000000 * t * (1000000000 * y2) := Rat.mul_le_mul_of_nonneg_right ht (by grind)
 refine Rat.le_of_mul_le_mul_right (c := (d : Rat)) ?_ d0
 grind
theorem term_hi {th hi d : Int} {t y2 t' : Rat} (hd : 0 < d) (hh : 0 ≤ hi) (t0 : 0 ≤ t) (ht : 1000000000 * t ≤ (th : Rat)) (hhi : 1000000000 * y2 ≤ (hi : Rat)) (he : t' * (d : Rat) = t * y2) :
  1000000000 * t' ≤ ((upd (upd (th * hi) 1000000000) d : Int) : Rat) := by
 have a1 := upd_ge (a := th * hi) (b := 1000000000) (by omega)
 have a2 := upd_ge (a := upd (th * hi) 1000000000) (b := d) hd
 have a3 : th * hi ≤ upd (upd (th * hi) 1000000000) d * d * 1000000000 := by
  have := Int.mul_le_mul_of_nonneg_right a2 (show (0 : Int) ≤ 1000000000 by omega)
  omega
 generalize upd (upd (th * hi) 1000000000) d = q at *
 have a4 : ((th * hi : Int) : Rat) ≤ ((q * d * 1000000000 : Int) : Rat) := Rat.intCast_le_intCast.2 a3
 have d0 : (0 : Rat) < (d : Rat) := Rat.intCast_pos.2 hd
 have l0 : (0 : Rat) ≤ (hi : Rat) := Rat.intCast_nonneg.2 hh
 simp only [Rat.intCast_mul] at a4
 have e9 : ((1000000000 : Int) : Rat) = 1000000000 := by simp
 rw [e9] at a4
 have b1 : 1000000000 * t * (1000000000 * y2) ≤ 1000000000 * t * (hi : Rat) := Rat.mul_le_mul_of_nonneg_left hhi (by grind)
 have b2 : 1000000000 * t * (hi : Rat) ≤ (th : Rat) * (hi : Rat) := Rat.mul_le_mul_of_nonneg_right ht l0
 refine Rat.le_of_mul_le_mul_right (c := (d : Rat)) ?_ d0
 grind
theorem stop_tells {sl sh : Int} {Q Q' t s : Rat} (hs : s = 1 ∨ s = -1) (t0 : 0 ≤ t) (t1 : 1000000000 * t ≤ 1) (e : Q' = Q + s * t) (h4 : (sl : Rat) ≤ 1000000000 * Q) (h5 : 1000000000 * Q ≤ (sh : Rat)) :
  ((sl - 1 : Int) : Rat) ≤ 1000000000 * Q ∧ ((sl - 1 : Int) : Rat) ≤ 1000000000 * Q' ∧ 1000000000 * Q ≤ ((sh + 1 : Int) : Rat) ∧ 1000000000 * Q' ≤ ((sh + 1 : Int) : Rat) := by
 have o : ((1 : Int) : Rat) = 1 := rfl
 rw [Rat.intCast_sub, Rat.intCast_add, o, e]
 generalize (sl : Rat) = x at *
 generalize (sh : Rat) = y at *
 rcases hs with hs | hs <;> subst hs <;> refine ⟨?_, ?_, ?_, ?_⟩ <;> grind
/-- What stays to be added at most: the bounds of the terms behind. -/
def rest (B : Nat → Int) : Nat → Nat → Int
 | 0, _ => 1
 | e + 1, m => B (m + 1) + rest B e (m + 1)
theorem rest_pos {B : Nat → Int} (hB : ∀ m, 0 ≤ B m) (e : Nat) : ∀ m, 1 ≤ rest B e m := by
 induction e with
 | zero => intro m; simp [rest]
 | succ e ih => intro m; simp only [rest]; have := hB (m + 1); have := ih (m + 1); omega
set_option maxHeartbeats 4000000 in
theorem row_tells (B : Nat → Int) (M : Nat) (i0 : Nat) (hM : 2 * M + i0 + 1 < 40) (hB0 : ∀ m, 0 ≤ B m)
  (hB : ∀ m, m < M → B m ≤ B (m + 1) * (((2 * m + i0 + 1 : Nat) : Int) * (((2 * m + i0 + 1 : Nat) : Int) + 1)))
  (hBM : B M < ((2 * M + i0 + 1 : Nat) : Int) * (((2 * M + i0 + 1 : Nat) : Int) + 1))
  (lo hi : Int) (hl : 0 ≤ lo) (hlh : lo ≤ 1000000000) (hh : 0 ≤ hi) (hh1 : hi ≤ 1000000000) (y2 : Rat) (hlo : (lo : Rat) ≤ 1000000000 * y2) (hhi : 1000000000 * y2 ≤ (hi : Rat))
  (t Q : Nat → Rat) (ht0 : ∀ m, 0 ≤ t m) (hQ : ∀ m, Q (m + 1) = Q m + sg m * t m) (hstep : ∀ m, t (m + 1) * ((((2 * m + i0 + 1 : Nat) : Int) * (((2 * m + i0 + 1 : Nat) : Int) + 1) : Int) : Rat) = t m * y2)
  (e : Nat) : ∀ (k m : Nat) (b : Bool) (sl sh tl th : Int), m + e = M → e + 2 ≤ k → (sg (m + 1) = if b = true then -1 else 1) → 0 ≤ tl → tl ≤ th → th ≤ B m → (tl : Rat) ≤ 1000000000 * t m → 1000000000 * t m ≤ (th : Rat) →
   (sl : Rat) ≤ 1000000000 * Q (m + 1) → 1000000000 * Q (m + 1) ≤ (sh : Rat) →
   ∃ j, j ≤ M + 2 ∧ sl - rest B e m ≤ (rowM k ((2 * m + i0 + 1 : Nat) : Int) lo hi b sl sh tl th).1 ∧ (rowM k ((2 * m + i0 + 1 : Nat) : Int) lo hi b sl sh tl th).2 ≤ sh + rest B e m ∧
    (((rowM k ((2 * m + i0 + 1 : Nat) : Int) lo hi b sl sh tl th).1 : Rat) ≤ 1000000000 * Q j ∧ ((rowM k ((2 * m + i0 + 1 : Nat) : Int) lo hi b sl sh tl th).1 : Rat) ≤ 1000000000 * Q (j + 1)) ∧
    1000000000 * Q j ≤ ((rowM k ((2 * m + i0 + 1 : Nat) : Int) lo hi b sl sh tl th).2 : Rat) ∧ 1000000000 * Q (j + 1) ≤ ((rowM k ((2 * m + i0 + 1 : Nat) : Int) lo hi b sl sh tl th).2 : Rat) := by
 have key : ∀ (m : Nat) (tl th : Int), 0 ≤ tl → tl ≤ th → (tl : Rat) ≤ 1000000000 * t m → 1000000000 * t m ≤ (th : Rat) → ∀ n : Int, n = ((2 * m + i0 + 1 : Nat) : Int) →
   0 < n * (n + 1) ∧ 1000000000 * t (m + 1) ≤ ((upd (upd (th * hi) 1000000000) (n * (n + 1)) : Int) : Rat) ∧ ((tl * lo / 1000000000 / (n * (n + 1)) : Int) : Rat) ≤ 1000000000 * t (m + 1) ∧
   0 ≤ tl * lo / 1000000000 / (n * (n + 1)) ∧ tl * lo / 1000000000 / (n * (n + 1)) ≤ upd (upd (th * hi) 1000000000) (n * (n + 1)) ∧ 0 ≤ upd (upd (th * hi) 1000000000) (n * (n + 1)) ∧
   (∀ q, th ≤ q * (n * (n + 1)) → upd (upd (th * hi) 1000000000) (n * (n + 1)) ≤ q) ∧ (th < n * (n + 1) → tl * lo / 1000000000 / (n * (n + 1)) = 0) := by
  intro m tl th h0 h1 h2 h3 n hn
  have n1 : 1 ≤ n := by omega
  have hd : 0 < n * (n + 1) := Int.mul_pos (by omega) (by omega)
  have he := hstep m
  rw [← hn] at he
  have a := term_lo hd h0 hl h2 hlo he
  have b := term_hi hd hh (ht0 m) h3 hhi he
  have p1 : 0 ≤ tl * lo := Int.mul_nonneg h0 hl
  have p2 : 0 ≤ tl * lo / 1000000000 := Int.ediv_nonneg p1 (by omega)
  have p3 : 0 ≤ tl * lo / 1000000000 / (n * (n + 1)) := Int.ediv_nonneg p2 (by omega)
  have p4 : 0 ≤ th * hi := Int.mul_nonneg (by omega) hh
  have p5 : 0 ≤ upd (th * hi) 1000000000 := upd_nonneg (by omega) p4
  have p6 : 0 ≤ upd (upd (th * hi) 1000000000) (n * (n + 1)) := upd_nonneg hd p5
  have p7 : th * hi ≤ th * 1000000000 := Int.mul_le_mul_of_nonneg_left hh1 (by omega)
  have p8 : upd (th * hi) 1000000000 ≤ th := upd_le (by omega) p7
  have p9 : tl * lo ≤ tl * 1000000000 := Int.mul_le_mul_of_nonneg_left hlh h0
  have p10 : tl * lo / 1000000000 ≤ tl := by omega
  refine ⟨hd, b, a, p3, ?_, p6, fun q hq => upd_le hd (by omega), fun hlt => Int.ediv_eq_zero_of_lt p2 (by omega)⟩
  exact Rat.intCast_le_intCast.1 (Rat.le_trans a b)
 have flat : ∀ (m : Nat) (th : Int), th = 0 → 1000000000 * t m ≤ (th : Rat) → ∀ n : Int, n = ((2 * m + i0 + 1 : Nat) : Int) → Q (m + 1 + 1) = Q (m + 1) := by
  intro m th h1 h2 n hn
  have he := hstep m
  have a := ht0 m
  have n0 : (0 : Rat) < ((((2 * m + i0 + 1 : Nat) : Int) * (((2 * m + i0 + 1 : Nat) : Int) + 1) : Int) : Rat) := Rat.intCast_pos.2 (Int.mul_pos (by omega) (by omega))
  rw [h1] at h2
  have e0 : t m = 0 := by have : ((0 : Int) : Rat) = 0 := rfl; rw [this] at h2; grind
  rw [e0] at he
  have e1 : t (m + 1) = 0 := by
   have h3 : t (m + 1) * ((((2 * m + i0 + 1 : Nat) : Int) * (((2 * m + i0 + 1 : Nat) : Int) + 1) : Int) : Rat) = 0 := by rw [he]; grind
   rcases Rat.mul_eq_zero.1 h3 with h4 | h4
   ·exact h4
   ·rw [h4] at n0; exact absurd n0 (by decide)
  rw [hQ (m + 1), e1]; grind
 induction e with
 | zero =>
  intro k m b sl sh tl th hm hk hb h0 h1 hB2 h2 h3 h4 h5
  obtain ⟨k, rfl⟩ : ∃ q, k = q + 1 := ⟨k - 1, by omega⟩
  obtain ⟨k, rfl⟩ : ∃ q, k = q + 1 := ⟨k - 1, by omega⟩
  obtain rfl : m = M := by omega
  obtain ⟨n, hn⟩ : ∃ n : Int, n = ((2 * m + i0 + 1 : Nat) : Int) := ⟨_, rfl⟩
  obtain ⟨hd, c1, c2, c3, c4, c5, c6, c7⟩ := key m tl th h0 h1 h2 h3 n hn
  rw [← hn] at hBM ⊢
  have hn40 : n < 40 := by omega
  have z := c7 (by omega)
  have y := c6 1 (by omega)
  simp only [rest]
  rw [rowM]
  by_cases a1 : th = 0
  ·rw [if_pos a1]
   have f := flat m th a1 h3 n hn
   refine ⟨m + 1, by omega, by simp; omega, by simp; omega, ⟨h4, by rw [f]; exact h4⟩, h5, by rw [f]; exact h5⟩
  ·rw [if_neg a1, if_pos hn40]
   rw [z] at c2 c4 ⊢
   have e2 := hQ (m + 1)
   have tn := ht0 (m + 1)
   by_cases a2 : upd (upd (th * hi) 1000000000) (n * (n + 1)) = 1
   ·rw [if_pos ⟨a2, rfl⟩]
    rw [a2] at c1
    have o : ((1 : Int) : Rat) = 1 := rfl
    rw [o] at c1
    obtain ⟨g1, g2, g3, g4⟩ := stop_tells (sg_or (m + 1)) tn c1 e2 h4 h5
    exact ⟨m + 1, by omega, by simp, by simp, ⟨g1, g2⟩, g3, g4⟩
   ·have a3 : upd (upd (th * hi) 1000000000) (n * (n + 1)) = 0 := by omega
    rw [a3] at c1
    have o : ((0 : Int) : Rat) = 0 := rfl
    rw [o] at c1
    have e3 : t (m + 1) = 0 := by grind
    have f : Q (m + 1 + 1) = Q (m + 1) := by rw [e2, e3]; grind
    rw [if_neg (by rw [a3]; omega), a3]
    have g1 : rowM (k + 1) (n + 2) lo hi (!b) (sl - 0) (sh - 0) 0 0 = (sl - 0, sh - 0) := by rw [rowM]; simp
    have g2 : rowM (k + 1) (n + 2) lo hi (!b) (sl + 0) (sh + 0) 0 0 = (sl + 0, sh + 0) := by rw [rowM]; simp
    cases b with
    | true =>
     rw [if_pos rfl, g1]
     simp only [Int.sub_zero]
     exact ⟨m + 1, by omega, by omega, by omega, ⟨h4, by rw [f]; exact h4⟩, h5, by rw [f]; exact h5⟩
    | false =>
     rw [if_neg (by decide), g2]
     simp only [Int.add_zero]
     exact ⟨m + 1, by omega, by omega, by omega, ⟨h4, by rw [f]; exact h4⟩, h5, by rw [f]; exact h5⟩
 | succ e ih =>
  intro k m b sl sh tl th hm hk hb h0 h1 hB2 h2 h3 h4 h5
  obtain ⟨k, rfl⟩ : ∃ q, k = q + 1 := ⟨k - 1, by omega⟩
  obtain ⟨n, hn⟩ : ∃ n : Int, n = ((2 * m + i0 + 1 : Nat) : Int) := ⟨_, rfl⟩
  obtain ⟨hd, c1, c2, c3, c4, c5, c6, c7⟩ := key m tl th h0 h1 h2 h3 n hn
  have hBm := hB m (by omega)
  have rp := rest_pos hB0 e (m + 1)
  have b1 := hB0 (m + 1)
  have hn2 : n + 2 = ((2 * (m + 1) + i0 + 1 : Nat) : Int) := by omega
  rw [← hn] at hBm ⊢
  have hn40 : n < 40 := by omega
  have y := c6 (B (m + 1)) (by omega)
  simp only [rest]
  rw [rowM]
  by_cases a1 : th = 0
  ·rw [if_pos a1]
   have f := flat m th a1 h3 n hn
   refine ⟨m + 1, by omega, by simp; omega, by simp; omega, ⟨h4, by rw [f]; exact h4⟩, h5, by rw [f]; exact h5⟩
  ·rw [if_neg a1, if_pos hn40]
   have e2 := hQ (m + 1)
   have tn := ht0 (m + 1)
   generalize upd (upd (th * hi) 1000000000) (n * (n + 1)) = th' at *
   generalize tl * lo / 1000000000 / (n * (n + 1)) = tl' at *
   by_cases a2 : th' = 1 ∧ tl' = 0
   ·rw [if_pos a2]
    rw [a2.1] at c1
    have o : ((1 : Int) : Rat) = 1 := rfl
    rw [o] at c1
    obtain ⟨g1, g2, g3, g4⟩ := stop_tells (sg_or (m + 1)) tn c1 e2 h4 h5
    exact ⟨m + 1, by omega, by simp; omega, by simp; omega, ⟨g1, g2⟩, g3, g4⟩
   ·rw [if_neg a2]
    have sgn : sg (m + 1 + 1) = -sg (m + 1) := rfl
    cases b with
    | true =>
     rw [if_pos rfl] at hb ⊢
     rw [hb] at e2 sgn
     obtain ⟨j, q1, q2, q3, q4, q5⟩ := ih k (m + 1) (!true) (sl - th') (sh - tl') tl' th' (by omega) (by omega) (by rw [sgn]; simp) c3 c4 y c2 c1
      (by rw [e2, Rat.intCast_sub]; grind) (by rw [e2, Rat.intCast_sub]; grind)
     rw [← hn2] at q2 q3 q4 q5
     exact ⟨j, q1, by omega, by omega, q4, q5⟩
    | false =>
     rw [if_neg (by decide)] at hb ⊢
     rw [hb] at e2 sgn
     obtain ⟨j, q1, q2, q3, q4, q5⟩ := ih k (m + 1) (!false) (sl + tl') (sh + th') tl' th' (by omega) (by omega) (by rw [sgn]; simp) c3 c4 y c2 c1
      (by rw [e2, Rat.intCast_add]; grind) (by rw [e2, Rat.intCast_add]; grind)
     rw [← hn2] at q2 q3 q4 q5
     exact ⟨j, q1, by omega, by omega, q4, q5⟩
/-! ### the rows of sine and cosine -/
def BS : Nat → Int
 | 0 => 1000000000 | 1 => 166666667 | 2 => 8333334 | 3 => 198413 | 4 => 2756 | 5 => 26 | _ => 0
def BC : Nat → Int
 | 0 => 1000000000 | 1 => 500000000 | 2 => 41666667 | 3 => 1388889 | 4 => 24802 | 5 => 276 | 6 => 3 | _ => 0
theorem sg_pick (j : Nat) (P : Nat → Prop) (h1 : P j) (h2 : P (j + 1)) (s : Rat) (hs : s = 1 ∨ s = -1) : ∃ p, p ≤ j + 1 ∧ P p ∧ sg p = s := by
 rcases sg_or j with a | a <;> rcases hs with b | b
 ·exact ⟨j, by omega, h1, by grind⟩
 ·exact ⟨j + 1, by omega, h2, by simp only [sg]; grind⟩
 ·exact ⟨j + 1, by omega, h2, by simp only [sg]; grind⟩
 ·exact ⟨j, by omega, h1, by grind⟩
theorem pw_two (y : Rat) (k : Nat) : pw y (k + 1 + 1) * ((((k + 1 : Nat) : Int) * (((k + 1 : Nat) : Int) + 1) : Int) : Rat) = pw y k * (y * y) := by
 have a := pw_step y k
 have b := pw_step y (k + 1)
 have e : ((((k + 1 : Nat) : Int) * (((k + 1 : Nat) : Int) + 1) : Int) : Rat) = ((k : Rat) + 1) * ((((k + 1 : Nat) : Rat)) + 1) := by
  simp [Rat.intCast_mul, Rat.intCast_add, Rat.intCast_natCast]
 rw [e]
 calc pw y (k + 1 + 1) * (((k : Rat) + 1) * ((((k + 1 : Nat) : Rat)) + 1)) = (pw y (k + 1 + 1) * ((((k + 1 : Nat) : Rat)) + 1)) * ((k : Rat) + 1) := by grind
  _ = pw y (k + 1) * y * ((k : Rat) + 1) := by rw [b]
  _ = (pw y (k + 1) * ((k : Rat) + 1)) * y := by grind
  _ = pw y k * (y * y) := by rw [a]; grind
section
variable {a : Int} {y : Rat} (h0 : 0 ≤ a) (h1 : a ≤ 785398164) (hy : (a : Rat) = 1000000000 * y)
include h0 h1 hy
theorem sq_ends : 0 ≤ a * a / 1000000000 ∧ a * a / 1000000000 ≤ 1000000000 ∧ 0 ≤ upd (a * a) 1000000000 ∧ upd (a * a) 1000000000 ≤ 1000000000 ∧
  ((a * a / 1000000000 : Int) : Rat) ≤ 1000000000 * (y * y) ∧ 1000000000 * (y * y) ≤ ((upd (a * a) 1000000000 : Int) : Rat) ∧ 0 ≤ y ∧ y ≤ 9 / 10 := by
 have p0 : 0 ≤ a * a := Int.mul_nonneg h0 h0
 have p1 : a * a ≤ 785398164 * 785398164 := Int.mul_le_mul h1 h1 h0 (by omega)
 have e : ((a * a : Int) : Rat) = 1000000000 * (1000000000 * (y * y)) := by rw [Rat.intCast_mul, hy]; grind
 have d := dn_le (a := a * a) (b := 1000000000) (by omega)
 have u := upd_ge (a := a * a) (b := 1000000000) (by omega)
 have d' := Rat.intCast_le_intCast.2 d
 have u' := Rat.intCast_le_intCast.2 u
 have y0 : (0 : Rat) ≤ (a : Rat) := Rat.intCast_nonneg.2 h0
 have y1 : (a : Rat) ≤ ((785398164 : Int) : Rat) := Rat.intCast_le_intCast.2 h1
 have c1 : ((785398164 : Int) : Rat) = 785398164 := rfl
 have c2 : ((1000000000 : Int) : Rat) = 1000000000 := rfl
 rw [Rat.intCast_mul (a * a / 1000000000), e, c2] at d'
 rw [Rat.intCast_mul (upd (a * a) 1000000000), e, c2] at u'
 rw [c1] at y1
 refine ⟨by omega, by omega, upd_nonneg (by omega) p0, upd_le (by omega) (by omega), by grind, by grind, by grind, by grind⟩
theorem row_sine : (∃ p, p ≤ 8 ∧ ((row a a 2).1 : Rat) ≤ 1000000000 * QS y p ∧ sg p = 1) ∧ (∃ p, p ≤ 8 ∧ 1000000000 * QS y p ≤ ((row a a 2).2 : Rat) ∧ sg p = -1) ∧
  a - 175201197 ≤ (row a a 2).1 ∧ (row a a 2).2 ≤ a + 175201197 := by
 obtain ⟨q1, q2, q3, q4, q5, q6, q7, q8⟩ := sq_ends h0 h1 hy
 have t0 : ∀ m, 0 ≤ pw y (2 * m + 1) := fun m => (pw_bd q7 (by grind) _).1
 have e1 : pw y (2 * 0 + 1) = y := by simp only [pw]; simp; grind
 have e2 : QS y (0 + 1) = y := by simp only [QS, e1, sg]; grind
 obtain ⟨j, c1, c2, c3, ⟨c4, c5⟩, c6, c7⟩ := row_tells BS 5 1 (by omega) (by intro m; unfold BS; split <;> decide) (by decide) (by decide)
  (a * a / 1000000000) (upd (a * a) 1000000000) q1 q2 q3 q4 (y * y) q5 q6 (fun m => pw y (2 * m + 1)) (QS y) t0 (fun m => rfl)
  (fun m => pw_two y (2 * m + 1)) 5 30 0 true a a a a (by omega) (by omega) rfl h0 (by omega) (by simp only [BS]; omega)
  (by show (a : Rat) ≤ 1000000000 * pw y (2 * 0 + 1); rw [e1]; grind) (by show 1000000000 * pw y (2 * 0 + 1) ≤ (a : Rat); rw [e1]; grind) (by rw [e2]; grind) (by rw [e2]; grind)
 have er : rest BS 5 0 = 175201197 := by decide
 rw [er] at c2 c3
 refine ⟨?_, ?_, c2, c3⟩
 ·obtain ⟨p, r1, r2, r3⟩ := sg_pick j (fun p => ((row a a 2).1 : Rat) ≤ 1000000000 * QS y p) c4 c5 1 (.inl rfl)
  exact ⟨p, by omega, r2, r3⟩
 ·obtain ⟨p, r1, r2, r3⟩ := sg_pick j (fun p => 1000000000 * QS y p ≤ ((row a a 2).2 : Rat)) c6 c7 (-1) (.inr rfl)
  exact ⟨p, by omega, r2, r3⟩
theorem row_cos : (∃ p, p ≤ 9 ∧ ((row 1000000000 a 1).1 : Rat) ≤ 1000000000 * QC y p ∧ sg p = 1) ∧ (∃ p, p ≤ 9 ∧ 1000000000 * QC y p ≤ ((row 1000000000 a 1).2 : Rat) ∧ sg p = -1) ∧
  1000000000 - 543080638 ≤ (row 1000000000 a 1).1 ∧ (row 1000000000 a 1).2 ≤ 1000000000 + 543080638 := by
 obtain ⟨q1, q2, q3, q4, q5, q6, q7, q8⟩ := sq_ends h0 h1 hy
 have t0 : ∀ m, 0 ≤ pw y (2 * m) := fun m => (pw_bd q7 (by grind) _).1
 have e1 : pw y (2 * 0) = 1 := rfl
 have e2 : QC y (0 + 1) = 1 := by simp only [QC, e1, sg]; grind
 have c : ((1000000000 : Int) : Rat) = 1000000000 * 1 := by simp
 obtain ⟨j, c1, c2, c3, ⟨c4, c5⟩, c6, c7⟩ := row_tells BC 6 0 (by omega) (by intro m; unfold BC; split <;> decide) (by decide) (by decide)
  (a * a / 1000000000) (upd (a * a) 1000000000) q1 q2 q3 q4 (y * y) q5 q6 (fun m => pw y (2 * m)) (QC y) t0 (fun m => rfl)
  (fun m => pw_two y (2 * m)) 6 30 0 true 1000000000 1000000000 1000000000 1000000000 (by omega) (by omega) rfl (by omega) (by omega) (by simp only [BC]; omega)
  (by show _ ≤ 1000000000 * pw y (2 * 0); rw [e1, c]; exact Rat.le_refl) (by show 1000000000 * pw y (2 * 0) ≤ _; rw [e1, c]; exact Rat.le_refl) (by rw [e2, c]; exact Rat.le_refl) (by rw [e2, c]; exact Rat.le_refl)
 have er : rest BC 6 0 = 543080638 := by decide
 rw [er] at c2 c3
 refine ⟨?_, ?_, c2, c3⟩
 ·obtain ⟨p, r1, r2, r3⟩ := sg_pick j (fun p => ((row 1000000000 a 1).1 : Rat) ≤ 1000000000 * QC y p) c4 c5 1 (.inl rfl)
  exact ⟨p, by omega, r2, r3⟩
 ·obtain ⟨p, r1, r2, r3⟩ := sg_pick j (fun p => 1000000000 * QC y p ≤ ((row 1000000000 a 1).2 : Rat)) c6 c7 (-1) (.inr rfl)
  exact ⟨p, by omega, r2, r3⟩
end
/-! ### sine and cosine of halves of a part, as numbers -/
def NN : Nat := 10000000000000000000000000
theorem rot_mul (N i j : Nat) : C0 ((i + j) * N) = C0 (i * N) * C0 (j * N) - S0 (i * N) * S0 (j * N) ∧ S0 ((i + j) * N) = S0 (i * N) * C0 (j * N) + C0 (i * N) * S0 (j * N) := by
 rw [Nat.add_mul]
 exact rot_add (c := cr) (s := sr) (i * N) (j * N)
/-- sine and cosine of so many halves of a part, not below 0 -/
@[irreducible] def S1 (j : Nat) : Rat := S0 (j * NN)
@[irreducible] def C1 (j : Nat) : Rat := C0 (j * NN)
theorem S1_eq (j : Nat) : S1 j = S0 (j * NN) := by unfold S1; rfl
theorem C1_eq (j : Nat) : C1 j = C0 (j * NN) := by unfold C1; rfl
theorem add1 (i j : Nat) : C1 (i + j) = C1 i * C1 j - S1 i * S1 j ∧ S1 (i + j) = S1 i * C1 j + C1 i * S1 j := by
 simp only [S1_eq, C1_eq]
 exact rot_mul NN i j
theorem unit1 (j : Nat) : C1 j * C1 j + S1 j * S1 j = 1 := by
 simp only [S1_eq, C1_eq]
 exact unit0 _
theorem zero1 : S1 0 = 0 ∧ C1 0 = 1 := by
 simp only [S1_eq, C1_eq, Nat.zero_mul]
 exact ⟨rfl, rfl⟩
/-- sine, and cosine, of so many halves of a part -/
def sn (h : Int) : Rat := if 0 ≤ h then S1 h.toNat else -S1 (-h).toNat
def cs (h : Int) : Rat := if 0 ≤ h then C1 h.toNat else C1 (-h).toNat
theorem sn_neg (h : Int) : sn (-h) = -sn h := by
 unfold sn
 by_cases a : 0 ≤ h
 ·by_cases b : 0 ≤ -h
  ·have : h = 0 := by omega
   subst this; rw [if_pos (by decide), if_pos (by decide)]; show S1 0 = -S1 0; rw [zero1.1]; rfl
  ·rw [if_pos a, if_neg b, Int.neg_neg]
 ·rw [if_neg a, if_pos (by omega)]; grind
theorem cs_neg (h : Int) : cs (-h) = cs h := by
 unfold cs
 by_cases a : 0 ≤ h
 ·by_cases b : 0 ≤ -h
  ·have : h = 0 := by omega
   subst this; rfl
  ·rw [if_pos a, if_neg b, Int.neg_neg]
 ·rw [if_neg a, if_pos (by omega)]
theorem unitZ (h : Int) : cs h * cs h + sn h * sn h = 1 := by
 unfold sn cs
 have a := unit1 h.toNat
 have b := unit1 (-h).toNat
 split <;> grind
theorem add_pos {a b : Int} (ha : 0 ≤ a) (hb : 0 ≤ b) : cs (a + b) = cs a * cs b - sn a * sn b ∧ sn (a + b) = sn a * cs b + cs a * sn b := by
 unfold sn cs
 rw [if_pos ha, if_pos ha, if_pos hb, if_pos hb, if_pos (show 0 ≤ a + b by omega), if_pos (show 0 ≤ a + b by omega)]
 have q : (a + b).toNat = a.toNat + b.toNat := by omega
 rw [q]
 exact add1 _ _
theorem sub_pos {a b : Int} (hb : 0 ≤ b) (hab : b ≤ a) : cs (a - b) = cs a * cs b + sn a * sn b ∧ sn (a - b) = sn a * cs b - cs a * sn b := by
 have r := add_pos (a := a - b) (b := b) (by omega) hb
 rw [Int.sub_add_cancel] at r
 have u := unitZ b
 rw [r.1, r.2]
 generalize cs b = x at *
 generalize sn b = y at *
 constructor <;> grind
theorem sub_any {a b : Int} (ha : 0 ≤ a) (hb : 0 ≤ b) : cs (a - b) = cs a * cs b + sn a * sn b ∧ sn (a - b) = sn a * cs b - cs a * sn b := by
 rcases Int.le_total b a with h | h
 ·exact sub_pos hb h
 ·have r := sub_pos ha h
  have e : a - b = -(b - a) := by omega
  rw [e, cs_neg, sn_neg, r.1, r.2]
  constructor <;> grind
theorem addZ (a b : Int) : cs (a + b) = cs a * cs b - sn a * sn b ∧ sn (a + b) = sn a * cs b + cs a * sn b := by
 rcases Int.le_total 0 a with ha | ha <;> rcases Int.le_total 0 b with hb | hb
 ·exact add_pos ha hb
 ·have r := sub_any (a := a) (b := -b) ha (by omega)
  have e : a - -b = a + b := by omega
  rw [e, cs_neg, sn_neg] at r
  rw [r.1, r.2]; constructor <;> grind
 ·have r := sub_any (a := b) (b := -a) hb (by omega)
  have e : b - -a = a + b := by omega
  rw [e, cs_neg, sn_neg] at r
  rw [r.1, r.2]; constructor <;> grind
 ·have r := add_pos (a := -a) (b := -b) (by omega) (by omega)
  have e : -a + -b = -(a + b) := by omega
  rw [e, cs_neg, sn_neg, cs_neg, sn_neg, cs_neg, sn_neg] at r
  rw [r.1]; constructor <;> grind
theorem bdZ (h : Int) : sn h ≤ 1 ∧ -1 ≤ sn h ∧ cs h ≤ 1 ∧ -1 ≤ cs h := by
 have u := unitZ h
 have a := Rat.le_one_of_sq u
 have b := Rat.le_one_of_sq (a := sn h) (b := cs h) (by grind)
 exact ⟨b.1, b.2, a.1, a.2⟩
/-! ### a quarter -/
theorem eighth : C0 324000000000000000000000000000000 - S0 324000000000000000000000000000000 ≤ 1 / 50000000000000000000000000000 ∧
  S0 324000000000000000000000000000000 - C0 324000000000000000000000000000000 ≤ 1 / 50000000000000000000000000000 := by
 have e : (((324000000000000000000000000000000 : Nat)) : Rat) = 324000000000000000000000000000000 := by simp
 have n := y0_near
 have r := y0_rows
 have hb := sr_arc_high
 have y0a : 0 ≤ y0 := by decide +kernel
 have y0b : y0 ≤ 1 := by decide +kernel
 have a := near0 y0a y0b 324000000000000000000000000000000 (by rw [e]; grind) (by rw [e]; exact n.1) (by rw [e]; exact n.2) 15 (by omega)
 have b := near0 y0a y0b 324000000000000000000000000000000 (by rw [e]; grind) (by rw [e]; exact n.1) (by rw [e]; exact n.2) 14 (by omega)
 have s1 : sg 15 = -1 := by decide +kernel
 have s2 : sg 14 = 1 := by decide +kernel
 rw [s1] at a
 rw [s2] at b
 clear n e hb y0a y0b s1 s2
 generalize C0 324000000000000000000000000000000 = C at *
 generalize S0 324000000000000000000000000000000 = S at *
 generalize QC y0 15 = a1 at *
 generalize QS y0 15 = a2 at *
 generalize QC y0 14 = a3 at *
 generalize QS y0 14 = a4 at *
 constructor <;> grind
theorem quarter : cs 64800000 ≤ 1 / 10000000000000000000000000000 ∧ -(1 / 10000000000000000000000000000) ≤ cs 64800000 ∧ 1 - 1 / 10000000000000000000000000000 ≤ sn 64800000 := by
 have a := addZ 32400000 32400000
 have e : (32400000 + 32400000 : Int) = 64800000 := by decide
 rw [e] at a
 have h := eighth
 have c0 : 32400000 * NN = 324000000000000000000000000000000 := by decide +kernel
 have c1 : cs 32400000 = C0 324000000000000000000000000000000 := by
  unfold cs; rw [if_pos (by decide)]; show C1 32400000 = _; rw [C1_eq, c0]
 have c2 : sn 32400000 = S0 324000000000000000000000000000000 := by
  unfold sn; rw [if_pos (by decide)]; show S1 32400000 = _; rw [S1_eq, c0]
 rw [← c1, ← c2] at h
 have u := unitZ 32400000
 have b := bdZ 32400000
 rw [a.1, a.2]
 clear a e c1 c2
 generalize cs 32400000 = c at *
 generalize sn 32400000 = s at *
 obtain ⟨b1, b2, b3, b4⟩ := b
 obtain ⟨h1, h2⟩ := h
 have e1 : c * c - s * s = (c - s) * (c + s) := by grind
 have e2 : s * c + c * s = 1 - (c - s) * (c - s) := by grind
 generalize hd : c - s = d at *
 have w1 : c + s ≤ 2 := by grind
 have w2 : -2 ≤ c + s := by grind
 rw [e1, e2]
 generalize c + s = w at *
 have d1 : d ≤ 1 / 50000000000000000000000000000 := h1
 have d2 : -(1 / 50000000000000000000000000000) ≤ d := by grind
 clear h2 h1 hd e1 e2 u b1 b2 b3 b4
 have p1 := Rat.mul_nonneg (show 0 ≤ 1 / 50000000000000000000000000000 - d by grind) (show 0 ≤ 2 - w by grind)
 have p2 := Rat.mul_nonneg (show 0 ≤ 1 / 50000000000000000000000000000 - d by grind) (show 0 ≤ 2 + w by grind)
 have p3 := Rat.mul_nonneg (show 0 ≤ 1 / 50000000000000000000000000000 + d by grind) (show 0 ≤ 2 - w by grind)
 have p4 := Rat.mul_nonneg (show 0 ≤ 1 / 50000000000000000000000000000 + d by grind) (show 0 ≤ 2 + w by grind)
 have p5 := Rat.mul_nonneg (show 0 ≤ 1 / 50000000000000000000000000000 + d by grind) (show 0 ≤ 1 / 50000000000000000000000000000 - d by grind)
 refine ⟨?_, ?_, ?_⟩ <;> grind
/-- A quarter less: sine and cosine changed, nearly. -/
theorem lessQ (h : Int) : sn (64800000 - h) - cs h ≤ 1 / 5000000000000000000000000000 ∧ cs h - sn (64800000 - h) ≤ 1 / 5000000000000000000000000000 ∧
  cs (64800000 - h) - sn h ≤ 1 / 5000000000000000000000000000 ∧ sn h - cs (64800000 - h) ≤ 1 / 5000000000000000000000000000 := by
 have a := addZ 64800000 (-h)
 rw [cs_neg, sn_neg, ← Int.sub_eq_add_neg] at a
 obtain ⟨q1, q2, q3⟩ := quarter
 have q4 := (bdZ 64800000).1
 obtain ⟨b1, b2, b3, b4⟩ := bdZ h
 rw [a.1, a.2]
 clear a
 generalize cs 64800000 = x at *
 generalize sn 64800000 = y at *
 generalize cs h = c at *
 generalize sn h = s at *
 have m (x d c : Rat) (h1 : x ≤ d) (h2 : -d ≤ x) (h3 : c ≤ 1) (h4 : -1 ≤ c) : x * c ≤ d ∧ -d ≤ x * c := by
  have p1 := Rat.mul_nonneg (show 0 ≤ d - x by grind) (show 0 ≤ 1 - c by grind)
  have p2 := Rat.mul_nonneg (show 0 ≤ d - x by grind) (show 0 ≤ 1 + c by grind)
  have p3 := Rat.mul_nonneg (show 0 ≤ d + x by grind) (show 0 ≤ 1 - c by grind)
  have p4 := Rat.mul_nonneg (show 0 ≤ d + x by grind) (show 0 ≤ 1 + c by grind)
  constructor <;> grind
 have m1 := m x _ c q1 q2 b3 b4
 have m2 := m x _ s q1 q2 b1 b2
 have m3 := m (y - 1) (1 / 10000000000000000000000000000) c (by grind) (by grind) b3 b4
 have m4 := m (y - 1) (1 / 10000000000000000000000000000) s (by grind) (by grind) b1 b2
 clear m
 refine ⟨?_, ?_, ?_, ?_⟩ <;> grind
/-- Half a turn less: the same, nearly. -/
theorem lessH (h : Int) : sn (129600000 - h) - sn h ≤ 1 / 2500000000000000000000000000 ∧ sn h - sn (129600000 - h) ≤ 1 / 2500000000000000000000000000 := by
 have a := lessQ (h - 64800000)
 have b := lessQ h
 have e : 64800000 - (h - 64800000) = 129600000 - h := by omega
 have e2 : h - 64800000 = -(64800000 - h) := by omega
 rw [e] at a
 rw [e2, cs_neg] at a
 generalize sn (129600000 - h) = x at *
 generalize cs (64800000 - h) = y at *
 constructor <;> grind
theorem backH (h : Int) : sn (h - 129600000) + sn h ≤ 1 / 2500000000000000000000000000 ∧ -(1 / 2500000000000000000000000000) ≤ sn (h - 129600000) + sn h := by
 have a := lessH h
 have e : h - 129600000 = -(129600000 - h) := by omega
 rw [e, sn_neg]
 constructor <;> grind
theorem backT (h : Int) : sn (h - 259200000) - sn h ≤ 1 / 1250000000000000000000000000 ∧ -(1 / 1250000000000000000000000000) ≤ sn (h - 259200000) - sn h := by
 have a := backH h
 have b := backH (h - 129600000)
 have e : h - 129600000 - 129600000 = h - 259200000 := by omega
 rw [e] at b
 constructor <;> grind
/-! ### the sine of the program, in whole numbers -/
def aL (h : Int) : Int := h * 785398163 / 32400000
def aH (h : Int) : Int := upd (h * 785398164) 32400000
theorem arc_ends {h : Int} (h0 : 0 ≤ h) (h1 : h ≤ 32400000) : 0 ≤ aL h ∧ aL h ≤ aH h ∧ aH h ≤ 785398164 ∧
  (aL h : Rat) ≤ 1000000000 * (sr * ((h.toNat * NN : Nat) : Rat)) ∧ 1000000000 * (sr * ((h.toNat * NN : Nat) : Rat)) ≤ (aH h : Rat) ∧ sr * ((h.toNat * NN : Nat) : Rat) ≤ 9 / 10 := by
 have a := dn_le (a := h * 785398163) (b := 32400000) (by omega)
 have b := upd_ge (a := h * 785398164) (b := 32400000) (by omega)
 have c : aH h ≤ 785398164 := upd_le (by omega) (by omega)
 have d : 0 ≤ aL h := Int.ediv_nonneg (by omega) (by omega)
 have e : ((h.toNat * NN : Nat) : Rat) = (h : Rat) * 10000000000000000000000000 := by
  have e1 : ((h.toNat : Nat) : Rat) = (h : Rat) := by
   rw [← Rat.intCast_natCast, Int.toNat_of_nonneg h0]
  have e2 : ((NN : Nat) : Rat) = 10000000000000000000000000 := by unfold NN; simp
  rw [Rat.natCast_mul, e1, e2]
 have p := sr_arc_low
 have q := sr_arc_high
 have t0 : (0 : Rat) ≤ (h : Rat) := Rat.intCast_nonneg.2 h0
 have t1 : (h : Rat) ≤ ((32400000 : Int) : Rat) := Rat.intCast_le_intCast.2 h1
 have a' := Rat.intCast_le_intCast.2 a
 have b' := Rat.intCast_le_intCast.2 b
 have k1 : ((32400000 : Int) : Rat) = 32400000 := rfl
 have k2 : ((785398163 : Int) : Rat) = 785398163 := rfl
 have k3 : ((785398164 : Int) : Rat) = 785398164 := rfl
 rw [Rat.intCast_mul, Rat.intCast_mul, k1, k2] at a'
 rw [Rat.intCast_mul, Rat.intCast_mul, k1, k3] at b'
 rw [k1] at t1
 have a2 : (aL h : Rat) * 32400000 ≤ (h : Rat) * 785398163 := a'
 have b2 : (h : Rat) * 785398164 ≤ (aH h : Rat) * 32400000 := b'
 rw [e]
 have m1 : (h : Rat) * (785398163 / 1000000000) ≤ (h : Rat) * (sr * 324000000000000000000000000000000) := Rat.mul_le_mul_of_nonneg_left p t0
 have m2 : (h : Rat) * (sr * 324000000000000000000000000000000) ≤ (h : Rat) * (785398164 / 1000000000) := Rat.mul_le_mul_of_nonneg_left q t0
 have r1 : (aL h : Rat) ≤ 1000000000 * (sr * ((h : Rat) * 10000000000000000000000000)) := by grind
 have r2 : 1000000000 * (sr * ((h : Rat) * 10000000000000000000000000)) ≤ (aH h : Rat) := by grind
 refine ⟨d, ?_, c, r1, r2, by grind⟩
 exact Rat.intCast_le_intCast.1 (Rat.le_trans r1 r2)
def smallM (h : Int) : Int × Int := (max 0 (row (aL h) (aL h) 2).1, (row (aH h) (aH h) 2).2)
def nearM (h : Int) : Int × Int := ((row 1000000000 (aH h) 1).1, min 1000000000 (row 1000000000 (aL h) 1).2)
def quartM (h : Int) : Int × Int :=
 if h = 0 then (0, 0) else if h = 21600000 then (500000000, 500000000) else if h = 64800000 then (1000000000, 1000000000) else
 if h ≤ 32400000 then smallM h else nearM (64800000 - h)
def halfM (h : Int) : Int × Int := if 64800000 < h then quartM (129600000 - h) else quartM h
def negM (s : Int × Int) : Int × Int := (-s.2, -s.1)
def sineM (h : Int) : Int × Int := if 129600000 ≤ h % 259200000 then negM (halfM (h % 259200000 - 129600000)) else halfM (h % 259200000)
theorem over9 (a : Int) : ∃ y : Rat, (a : Rat) = 1000000000 * y := ⟨(a : Rat) / 1000000000, by grind⟩
theorem small_ends {h : Int} (h0 : 0 ≤ h) (h1 : h ≤ 32400000) :
  0 ≤ (smallM h).1 ∧ (smallM h).1 ≤ (smallM h).2 ∧ (smallM h).2 ≤ 1000000000 ∧ -1000000000 ≤ (row (aL h) (aL h) 2).1 ∧
  ((smallM h).1 : Rat) ≤ 1000000000 * sn h + 1 / 100000000000000000000 ∧ 1000000000 * sn h ≤ ((smallM h).2 : Rat) + 1 / 100000000000000000000 := by
 obtain ⟨a1, a2, a3, a4, a5, a6⟩ := arc_ends h0 h1
 have es : sn h = S0 (h.toNat * NN) := by unfold sn; rw [if_pos h0, S1_eq]
 generalize h.toNat * NN = J at *
 have n0 := (low0 J (by grind)).1
 have n1 := (low0 J (by grind)).2.2.1
 have hi : (row (aH h) (aH h) 2).2 ≤ 1000000000 ∧ 1000000000 * S0 J ≤ ((row (aH h) (aH h) 2).2 : Rat) + 1 / 100000000000000000000 := by
  obtain ⟨y, hy⟩ := over9 (aH h)
  have y0 : (0 : Rat) ≤ (aH h : Rat) := Rat.intCast_nonneg.2 (by omega)
  have y1 : (aH h : Rat) ≤ ((785398164 : Int) : Rat) := Rat.intCast_le_intCast.2 a3
  have k3 : ((785398164 : Int) : Rat) = 785398164 := rfl
  rw [k3] at y1
  obtain ⟨-, ⟨p, p1, p2, p3⟩, -, p5⟩ := row_sine (a := aH h) (by omega) a3 hy
  have q := highS (y := y) (by grind) J p (by omega) (by grind) (by grind) p3
  exact ⟨by omega, by grind⟩
 have lo : -1000000000 ≤ (row (aL h) (aL h) 2).1 ∧ ((row (aL h) (aL h) 2).1 : Rat) ≤ 1000000000 * S0 J + 1 / 100000000000000000000 := by
  obtain ⟨y, hy⟩ := over9 (aL h)
  have y0 : (0 : Rat) ≤ (aL h : Rat) := Rat.intCast_nonneg.2 (by omega)
  have y1 : (aL h : Rat) ≤ ((785398164 : Int) : Rat) := Rat.intCast_le_intCast.2 (by omega)
  have k3 : ((785398164 : Int) : Rat) = 785398164 := rfl
  rw [k3] at y1
  obtain ⟨⟨p, p1, p2, p3⟩, -, p4, -⟩ := row_sine (a := aL h) (by omega) (by omega) hy
  have q := lowS (y := y) (by grind) J p (by omega) (by grind) (by grind) p3
  exact ⟨by omega, by grind⟩
 have l2 : ((smallM h).1 : Rat) ≤ 1000000000 * S0 J + 1 / 100000000000000000000 := by
  simp only [smallM]
  have k0 : ((0 : Int) : Rat) = 0 := rfl
  rcases Int.le_total 0 (row (aL h) (aL h) 2).1 with g | g
  ·rw [Int.max_eq_right g]; exact lo.2
  ·rw [Int.max_eq_left g, k0]; grind
 have h2 : 1000000000 * S0 J ≤ ((smallM h).2 : Rat) + 1 / 100000000000000000000 := hi.2
 refine ⟨by simp only [smallM]; omega, ?_, hi.1, lo.1, by rw [es]; exact l2, by rw [es]; exact h2⟩
 have : ((smallM h).1 : Rat) < (((smallM h).2 + 1 : Int) : Rat) := by
  rw [Rat.intCast_add]
  have k1 : ((1 : Int) : Rat) = 1 := rfl
  rw [k1]; grind
 have := Rat.intCast_lt_intCast.1 this
 omega
theorem near_ends {h : Int} (h0 : 0 ≤ h) (h1 : h ≤ 32400000) :
  0 ≤ (nearM h).1 ∧ (nearM h).1 ≤ (nearM h).2 ∧ (nearM h).2 ≤ 1000000000 ∧ (row 1000000000 (aL h) 1).2 ≤ 2000000000 ∧
  ((nearM h).1 : Rat) ≤ 1000000000 * cs h + 1 / 100000000000000000000 ∧ 1000000000 * cs h ≤ ((nearM h).2 : Rat) + 1 / 100000000000000000000 := by
 obtain ⟨a1, a2, a3, a4, a5, a6⟩ := arc_ends h0 h1
 have es : cs h = C0 (h.toNat * NN) := by unfold cs; rw [if_pos h0, C1_eq]
 generalize h.toNat * NN = J at *
 have n0 := (low0 J (by grind)).2.1
 have n1 := (low0 J (by grind)).2.2.2
 have lo : 0 ≤ (row 1000000000 (aH h) 1).1 ∧ ((row 1000000000 (aH h) 1).1 : Rat) ≤ 1000000000 * C0 J + 1 / 100000000000000000000 := by
  obtain ⟨y, hy⟩ := over9 (aH h)
  have y0 : (0 : Rat) ≤ (aH h : Rat) := Rat.intCast_nonneg.2 (by omega)
  have y1 : (aH h : Rat) ≤ ((785398164 : Int) : Rat) := Rat.intCast_le_intCast.2 a3
  have k3 : ((785398164 : Int) : Rat) = 785398164 := rfl
  rw [k3] at y1
  obtain ⟨⟨p, p1, p2, p3⟩, -, p4, -⟩ := row_cos (a := aH h) (by omega) a3 hy
  have q := lowC (y := y) (by grind) J p (by omega) (by grind) (by grind) p3
  exact ⟨by omega, by grind⟩
 have hi : (row 1000000000 (aL h) 1).2 ≤ 2000000000 ∧ 1000000000 * C0 J ≤ ((row 1000000000 (aL h) 1).2 : Rat) + 1 / 100000000000000000000 := by
  obtain ⟨y, hy⟩ := over9 (aL h)
  have y0 : (0 : Rat) ≤ (aL h : Rat) := Rat.intCast_nonneg.2 (by omega)
  have y1 : (aL h : Rat) ≤ ((785398164 : Int) : Rat) := Rat.intCast_le_intCast.2 (by omega)
  have k3 : ((785398164 : Int) : Rat) = 785398164 := rfl
  rw [k3] at y1
  obtain ⟨-, ⟨p, p1, p2, p3⟩, -, p5⟩ := row_cos (a := aL h) (by omega) (by omega) hy
  have q := highC (y := y) (by grind) J p (by omega) (by grind) (by grind) p3
  exact ⟨by omega, by grind⟩
 have h2 : 1000000000 * C0 J ≤ ((nearM h).2 : Rat) + 1 / 100000000000000000000 := by
  simp only [nearM]
  have k0 : ((1000000000 : Int) : Rat) = 1000000000 := rfl
  rcases Int.le_total 1000000000 (row 1000000000 (aL h) 1).2 with g | g
  ·rw [Int.min_eq_left g, k0]; grind
  ·rw [Int.min_eq_right g]; exact hi.2
 have l2 : ((nearM h).1 : Rat) ≤ 1000000000 * C0 J + 1 / 100000000000000000000 := lo.2
 refine ⟨lo.1, ?_, by simp only [nearM]; omega, hi.1, by rw [es]; exact l2, by rw [es]; exact h2⟩
 have : ((nearM h).1 : Rat) < (((nearM h).2 + 1 : Int) : Rat) := by
  rw [Rat.intCast_add]
  have k1 : ((1 : Int) : Rat) = 1 := rfl
  rw [k1]; grind
 have := Rat.intCast_lt_intCast.1 this
 omega
/-- A third of a quarter: its sine is a half, nearly. -/
theorem third : sn 21600000 - 1 / 2 ≤ 1 / 1000000000000000000000000000 ∧ 1 / 2 - sn 21600000 ≤ 1 / 1000000000000000000000000000 := by
 have a := addZ 21600000 21600000
 have e : (21600000 + 21600000 : Int) = 43200000 := by decide
 rw [e] at a
 have b := lessQ 43200000
 have e2 : (64800000 - 43200000 : Int) = 21600000 := by decide
 rw [e2, a.1] at b
 have u := unitZ 21600000
 have p : 0 ≤ sn 21600000 := by
  unfold sn; rw [if_pos (by decide), S1_eq]
  refine (low0 _ ?_).1
  have k := sr_small
  have sp := sr_pos
  have e3 : (((21600000 : Int).toNat * NN : Nat) : Rat) = 216000000000000000000000000000000 := by
   have : (21600000 : Int).toNat * NN = 216000000000000000000000000000000 := by decide +kernel
   rw [this]; simp
  have q := sr_arc_high
  rw [e3]
  grind
 obtain ⟨b1, b2, -, -⟩ := b
 clear a e e2
 generalize sn 21600000 = s at *
 generalize cs 21600000 = c at *
 -- s = c c - s s = 1 - 2 s s, nearly: (2 s - 1) (s + 1) is nearly 0
 have f : (2 * s - 1) * (s + 1) = s - (c * c - s * s) := by grind
 have f1 : (2 * s - 1) * (s + 1) ≤ 1 / 5000000000000000000000000000 := by grind
 have f2 : -(1 / 5000000000000000000000000000) ≤ (2 * s - 1) * (s + 1) := by grind
 clear f b1 b2 u
 constructor
 ·rcases (Rat.le_total : 2 * s - 1 ≤ 0 ∨ 0 ≤ 2 * s - 1) with g | g
  ·grind
  ·have := Rat.mul_nonneg g p
   grind
 ·rcases (Rat.le_total : 2 * s - 1 ≤ 0 ∨ 0 ≤ 2 * s - 1) with g | g
  ·have := Rat.mul_nonneg (show 0 ≤ 1 - 2 * s by grind) p
   grind
  ·grind
/-- What the program tells of a quarter. -/
theorem quart_ends {h : Int} (h0 : 0 ≤ h) (h1 : h ≤ 64800000) :
  0 ≤ (quartM h).1 ∧ (quartM h).1 ≤ (quartM h).2 ∧ (quartM h).2 ≤ 1000000000 ∧
  ((quartM h).1 : Rat) ≤ 1000000000 * sn h + 1 / 100000000000000000 ∧ 1000000000 * sn h ≤ ((quartM h).2 : Rat) + 1 / 100000000000000000 := by
 unfold quartM
 by_cases a1 : h = 0
 ·rw [if_pos a1, a1]
  have e : sn 0 = 0 := by unfold sn; rw [if_pos (by decide)]; exact zero1.1
  have k0 : ((0 : Int) : Rat) = 0 := rfl
  rw [e]
  simp only [k0]
  refine ⟨by omega, by omega, by omega, by grind, by grind⟩
 rw [if_neg a1]
 by_cases a2 : h = 21600000
 ·rw [if_pos a2, a2]
  have e := third
  have k0 : ((500000000 : Int) : Rat) = 500000000 := by simp
  simp only [k0]
  generalize sn 21600000 = s at *
  refine ⟨by omega, by omega, by omega, by grind, by grind⟩
 rw [if_neg a2]
 by_cases a3 : h = 64800000
 ·rw [if_pos a3, a3]
  have e := quarter
  have b := (bdZ 64800000).1
  have k0 : ((1000000000 : Int) : Rat) = 1000000000 := by simp
  simp only [k0]
  generalize sn 64800000 = s at *
  refine ⟨by omega, by omega, by omega, by grind, by grind⟩
 rw [if_neg a3]
 by_cases a4 : h ≤ 32400000
 ·rw [if_pos a4]
  obtain ⟨b1, b2, b3, -, b4, b5⟩ := small_ends h0 a4
  exact ⟨b1, b2, b3, by grind, by grind⟩
 ·rw [if_neg a4]
  obtain ⟨b1, b2, b3, -, b4, b5⟩ := near_ends (h := 64800000 - h) (by omega) (by omega)
  have l := lessQ (64800000 - h)
  have e : 64800000 - (64800000 - h) = h := by omega
  rw [e] at l
  exact ⟨b1, b2, b3, by grind, by grind⟩
theorem half_ends {h : Int} (h0 : 0 ≤ h) (h1 : h ≤ 129600000) :
  0 ≤ (halfM h).1 ∧ (halfM h).1 ≤ (halfM h).2 ∧ (halfM h).2 ≤ 1000000000 ∧
  ((halfM h).1 : Rat) ≤ 1000000000 * sn h + 1 / 50000000000000000 ∧ 1000000000 * sn h ≤ ((halfM h).2 : Rat) + 1 / 50000000000000000 := by
 unfold halfM
 split
 ·obtain ⟨b1, b2, b3, b4, b5⟩ := quart_ends (h := 129600000 - h) (by omega) (by omega)
  have l := lessH h
  exact ⟨b1, b2, b3, by grind, by grind⟩
 ·obtain ⟨b1, b2, b3, b4, b5⟩ := quart_ends h0 (by omega)
  exact ⟨b1, b2, b3, by grind, by grind⟩
/-- What the program tells, of any number. -/
theorem sine_ends (h : Int) : -1000000000 ≤ (sineM h).1 ∧ (sineM h).1 ≤ (sineM h).2 ∧ (sineM h).2 ≤ 1000000000 := by
 have r0 := Int.emod_nonneg h (show (259200000 : Int) ≠ 0 by omega)
 have r1 := Int.emod_lt_of_pos h (show (0 : Int) < 259200000 by omega)
 unfold sineM
 split
 ·obtain ⟨b1, b2, b3, -, -⟩ := half_ends (h := h % 259200000 - 129600000) (by omega) (by omega)
  simp only [negM]
  omega
 ·obtain ⟨b1, b2, b3, -, -⟩ := half_ends (h := h % 259200000) (by omega) (by omega)
  omega
theorem sine_true1 {h : Int} (h0 : 0 ≤ h) (h1 : h < 259200000) :
  ((sineM h).1 : Rat) ≤ 1000000000 * sn h + 1 / 20000000000000000 ∧ 1000000000 * sn h ≤ ((sineM h).2 : Rat) + 1 / 20000000000000000 := by
 have e : h % 259200000 = h := Int.emod_eq_of_lt h0 h1
 unfold sineM
 rw [e]
 split
 ·obtain ⟨-, -, -, b4, b5⟩ := half_ends (h := h - 129600000) (by omega) (by omega)
  have l := backH h
  simp only [negM]
  rw [Rat.intCast_neg, Rat.intCast_neg]
  exact ⟨by grind, by grind⟩
 ·obtain ⟨-, -, -, b4, b5⟩ := half_ends h0 (by omega)
  exact ⟨by grind, by grind⟩
theorem sine_back (h : Int) : sineM (h + 259200000) = sineM h := by
 unfold sineM
 rw [Int.add_emod_right]
/-- The sine is between what is told, nearly; of up to a turn below 0, and two above. -/
theorem sine_true {h : Int} (h0 : -259200000 ≤ h) (h1 : h < 518400000) :
  ((sineM h).1 : Rat) ≤ 1000000000 * sn h + 1 / 10000000000000000 ∧ 1000000000 * sn h ≤ ((sineM h).2 : Rat) + 1 / 10000000000000000 := by
 rcases Int.lt_or_le h 0 with g | g
 ·have a := sine_true1 (h := h + 259200000) (by omega) (by omega)
  have b := backT (h + 259200000)
  rw [sine_back] at a
  have e : h + 259200000 - 259200000 = h := by omega
  rw [e] at b
  exact ⟨by grind, by grind⟩
 ·rcases Int.lt_or_le h 259200000 with g2 | g2
  ·have a := sine_true1 g g2
   exact ⟨by grind, by grind⟩
  ·have a := sine_true1 (h := h - 259200000) (by omega) (by omega)
   have b := backT h
   have c := sine_back (h - 259200000)
   have e : h - 259200000 + 259200000 = h := by omega
   rw [e] at c
   rw [← c] at a
   exact ⟨by grind, by grind⟩
theorem sine_neg (h : Int) : sineM (-h) = negM (sineM h) := by
 have r0 := Int.emod_nonneg h (show (259200000 : Int) ≠ 0 by omega)
 have r1 := Int.emod_lt_of_pos h (show (0 : Int) < 259200000 by omega)
 have e : (-h) % 259200000 = if h % 259200000 = 0 then 0 else 259200000 - h % 259200000 := by split <;> omega
 unfold sineM
 rw [e]
 generalize h % 259200000 = r at *
 clear e
 by_cases a : r = 0
 ·subst a; decide
 rw [if_neg a]
 by_cases b : r = 129600000
 ·subst b; decide
 have hh : halfM (129600000 - r) = halfM r ∨ 129600000 < r := by
  rcases Int.lt_or_le 129600000 r with g | g
  ·exact .inr g
  ·left
   unfold halfM
   by_cases c : r = 64800000
   ·subst c; rfl
   by_cases d : 64800000 < r
   ·rw [if_neg (by omega), if_pos d]
   ·rw [if_pos (by omega), if_neg d]
    congr 1; omega
 by_cases c : 129600000 ≤ r
 ·rw [if_neg (by omega), if_pos c]
  have h2 : halfM (129600000 - (r - 129600000)) = halfM (r - 129600000) := by
   unfold halfM
   by_cases c : r - 129600000 = 64800000
   ·rw [c]; rfl
   by_cases d : 64800000 < r - 129600000
   ·rw [if_neg (by omega), if_pos d]
   ·rw [if_pos (by omega), if_neg d]
    congr 1; omega
  have e : 259200000 - r = 129600000 - (r - 129600000) := by omega
  rw [e, h2]
  simp [negM]
 ·rw [if_pos (by omega), if_neg c]
  have e : 259200000 - r - 129600000 = 129600000 - r := by omega
  rcases hh with g | g
  ·rw [e, g]
  ·omega
theorem sine_half (h : Int) : sineM (h + 129600000) = negM (sineM h) := by
 have r0 := Int.emod_nonneg h (show (259200000 : Int) ≠ 0 by omega)
 have r1 := Int.emod_lt_of_pos h (show (0 : Int) < 259200000 by omega)
 have e : (h + 129600000) % 259200000 = if h % 259200000 < 129600000 then h % 259200000 + 129600000 else h % 259200000 - 129600000 := by split <;> omega
 unfold sineM
 rw [e]
 generalize h % 259200000 = r at *
 clear e
 by_cases a : r < 129600000
 ·rw [if_pos a, if_pos (by omega), if_neg (by omega), Int.add_sub_cancel]
 ·rw [if_neg a, if_neg (by omega), if_pos (by omega)]
  simp [negM]
theorem sine_refl (h : Int) : sineM (129600000 - h) = sineM h := by
 have a := sine_half (-h)
 have e : -h + 129600000 = 129600000 - h := by omega
 rw [e, sine_neg] at a
 rw [a]; simp [negM]
theorem sine_turn (h k : Int) : sineM (h + 259200000 * k) = sineM h := by
 unfold sineM
 rw [Int.add_mul_emod_self_left]
/-! ### how it grows -/
theorem arc_step : 3 / 1000000000 ≤ sr / 8 * 10000000000000000000000000 ∧ sr * 324000000000000000000000000000000 ≤ 1 := by
 have a := sr_arc_low
 have b := sr_arc_high
 constructor <;> grind
theorem grow_small {a b : Int} (h0 : 0 ≤ a) (h : a < b) (h1 : b ≤ 32400000) : sn a + 3 / 1000000000 ≤ sn b ∧ 0 ≤ sn a ∧ 0 ≤ cs b ∧ 0 ≤ cs a := by
 have ea : sn a = S0 (a.toNat * NN) := by unfold sn; rw [if_pos h0, S1_eq]
 have eb : sn b = S0 (b.toNat * NN) := by unfold sn; rw [if_pos (by omega), S1_eq]
 have ec : cs b = C0 (b.toNat * NN) := by unfold cs; rw [if_pos (by omega), C1_eq]
 have ed : cs a = C0 (a.toNat * NN) := by unfold cs; rw [if_pos (by omega), C1_eq]
 obtain ⟨d, hd⟩ : ∃ d : Nat, b.toNat = a.toNat + (d + 1) := ⟨b.toNat - a.toNat - 1, by omega⟩
 have ea2 : ∀ x : Int, 0 ≤ x → ((x.toNat * NN : Nat) : Rat) = (x : Rat) * 10000000000000000000000000 := by
  intro x hx
  have e1 : ((x.toNat : Nat) : Rat) = (x : Rat) := by
   rw [← Rat.intCast_natCast, Int.toNat_of_nonneg hx]
  have e2 : ((NN : Nat) : Rat) = 10000000000000000000000000 := by unfold NN; simp
  rw [Rat.natCast_mul, e1, e2]
 have st := arc_step
 have sp := sr_pos
 have lim : ∀ x : Int, 0 ≤ x → x ≤ 32400000 → sr * ((x.toNat * NN : Nat) : Rat) ≤ 1 := by
  intro x hx hy
  have t1 : (x : Rat) ≤ ((32400000 : Int) : Rat) := Rat.intCast_le_intCast.2 hy
  have k1 : ((32400000 : Int) : Rat) = 32400000 := rfl
  rw [k1] at t1
  rw [ea2 x hx]
  have := Rat.mul_le_mul_of_nonneg_left t1 (show 0 ≤ sr by grind)
  grind
 have la := lim a h0 (by omega)
 have lb := lim b (by omega) h1
 have na := low0 _ la
 have nb := low0 _ lb
 have eD : (((d + 1) * NN : Nat) : Rat) = ((d : Rat) + 1) * 10000000000000000000000000 := by
  have e2 : ((NN : Nat) : Rat) = 10000000000000000000000000 := by unfold NN; simp
  rw [Rat.natCast_mul, e2]; simp
 rw [ea, eb, ec, ed]
 rw [hd, Nat.add_mul] at nb lb ⊢
 have g := (grow0 _ _ lb).1
 rw [eD] at g
 have d0 : (0 : Rat) ≤ (d : Rat) := Rat.natCast_nonneg
 have p : 0 ≤ sr / 8 * 10000000000000000000000000 * (d : Rat) := Rat.mul_nonneg (by grind) d0
 generalize (d + 1) * NN = D at *
 generalize a.toNat * NN = A at *
 exact ⟨by grind, na.1, by grind, by grind⟩
theorem fall_small {a b : Int} (h0 : 0 ≤ a) (h : a < b) (h1 : b ≤ 32400000) : cs b + 4 / 1000000000000000000 ≤ cs a := by
 obtain ⟨g, p1, p2, p3⟩ := grow_small h0 h h1
 have ua := unitZ a
 have ub := unitZ b
 have ba := (bdZ a).2.2.1
 have bb := (bdZ b).2.2.1
 generalize sn a = s at *
 generalize sn b = t at *
 generalize cs a = c at *
 generalize cs b = d at *
 -- (c - d) (c + d) = (t - s) (t + s)
 have e : (c - d) * (c + d) = (t - s) * (t + s) := by grind
 have q1 : (3 / 1000000000) * (3 / 1000000000) ≤ (t - s) * (t - s) := by
  have m1 := Rat.mul_le_mul_of_nonneg_left (show 3 / 1000000000 ≤ t - s by grind) (show (0 : Rat) ≤ 3 / 1000000000 by decide +kernel)
  have m2 := Rat.mul_le_mul_of_nonneg_right (show 3 / 1000000000 ≤ t - s by grind) (show (0 : Rat) ≤ t - s by grind)
  grind
 have q2 : (t - s) * (t - s) ≤ (t - s) * (t + s) := Rat.mul_le_mul_of_nonneg_left (by grind) (by grind)
 have q3 : 9 / 1000000000000000000 ≤ (c - d) * (c + d) := by rw [e]; grind
 clear e q1 q2 ua ub
 rcases (Rat.le_total : c - d ≤ 0 ∨ 0 ≤ c - d) with g2 | g2
 ·have := Rat.mul_nonneg (show 0 ≤ d - c by grind) (show 0 ≤ c + d by grind)
  grind
 ·have := Rat.mul_nonneg g2 (show 0 ≤ 2 - (c + d) by grind)
  grind
theorem grow_quart {a b : Int} (h0 : 0 ≤ a) (h : a < b) (h1 : b ≤ 64800000) : sn a + 3 / 1000000000000000000 ≤ sn b := by
 have up : ∀ x y : Int, 32400000 ≤ x → x < y → y ≤ 64800000 → sn x + 39 / 10000000000000000000 ≤ sn y := by
  intro x y hx hy hz
  have f := fall_small (a := 64800000 - y) (b := 64800000 - x) (by omega) (by omega) (by omega)
  have lx := lessQ (64800000 - x)
  have ly := lessQ (64800000 - y)
  have e1 : 64800000 - (64800000 - x) = x := by omega
  have e2 : 64800000 - (64800000 - y) = y := by omega
  rw [e1] at lx
  rw [e2] at ly
  grind
 rcases Int.lt_or_le a 32400000 with g | g
 ·rcases Int.lt_or_le 32400000 b with g2 | g2
  ·have m := up 32400000 b (by omega) g2 h1
   have n := (grow_small h0 g (by omega)).1
   generalize sn 32400000 = z at *
   grind
  ·have n := (grow_small h0 h g2).1
   grind
 ·have m := up a b g h h1
  grind
theorem sn_zero : sn 0 = 0 := by unfold sn; rw [if_pos (by decide)]; exact zero1.1
theorem grow_half {a b : Int} (h0 : -64800000 ≤ a) (h : a < b) (h1 : b ≤ 64800000) : sn a + 3 / 1000000000000000000 ≤ sn b := by
 rcases Int.lt_or_le a 0 with g | g
 ·rcases Int.lt_or_le b 0 with g2 | g2
  ·have m := grow_quart (a := -b) (b := -a) (by omega) (by omega) (by omega)
   rw [sn_neg, sn_neg] at m
   grind
  ·have m := grow_quart (a := 0) (b := -a) (by omega) (by omega) (by omega)
   rw [sn_neg, sn_zero] at m
   rcases Int.lt_or_le 0 b with g3 | g3
   ·have n := grow_quart (a := 0) (b := b) (by omega) g3 h1
    rw [sn_zero] at n
    grind
   ·have e : b = 0 := by omega
    rw [e, sn_zero]
    grind
 ·exact grow_quart g h h1
/-- Of two angles the greater one: its upper end is above the other one's lower end. -/
theorem sine_grow {a b : Int} (h0 : -64800000 ≤ a) (h : a < b) (h1 : b ≤ 64800000) : (sineM a).1 < (sineM b).2 := by
 have g := grow_half h0 h h1
 have p := (sine_true (h := a) (by omega) (by omega)).1
 have q := (sine_true (h := b) (by omega) (by omega)).2
 exact Rat.intCast_lt_intCast.1 (by grind)

end Go.Proofs.Ytlodpfddimeffaa.M
