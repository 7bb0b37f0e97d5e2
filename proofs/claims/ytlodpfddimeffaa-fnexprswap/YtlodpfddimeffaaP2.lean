import Derived.Test.YtlodpfddimeffaaP1
import Derived.Test.YtlodpfddimeffaaMa
import Derived.Test.YtlodpfddimeffaaMb
import Derived.Test.YtlodpfddimeffaaNa
import Derived.Test.YtlodpfddimeffaaNb
namespace Go.Proofs.Ytlodpfddimeffaa.M
open Go.RowKit Go.Proofs.YtlodpfddimeffaaW.PrintWords Go.Proofs.YtlodpfddimeffaaW.PrintLast Go.Proofs.YtlodpfddimeffaaW.PrintMore
attribute [local go_sem] max2_int min2_int max_two min_two max_three min_three max_four min_four
attribute [local go_sem high] eqA31
attribute [local go_sem] fld31_0 fld31_1 fld25_0 fld25_1 fld25_2 fld25_3
set_option linter.unusedVariables false
set_option linter.unusedSimpArgs false
theorem tdiv_down {a b : Int} (hb : 0 < b) : (Int.tmod a b < 0 → Int.tdiv a b - 1 = a / b) ∧ (¬ Int.tmod a b < 0 → Int.tdiv a b = a / b) := by
 rcases Int.le_total 0 a with h | h
 ·rw [Int.tdiv_eq_ediv_of_nonneg h, Int.tmod_eq_emod_of_nonneg h]
  have := Int.emod_nonneg a (show b ≠ 0 by omega)
  exact ⟨fun h => by omega, fun _ => rfl⟩
 ·obtain ⟨c, rfl⟩ : ∃ c, a = -c := ⟨-a, by omega⟩
  rw [Int.neg_tdiv, Int.neg_tmod, Int.tdiv_eq_ediv_of_nonneg (show 0 ≤ c by omega), Int.tmod_eq_emod_of_nonneg (show 0 ≤ c by omega)]
  have e := Int.mul_ediv_add_emod c b
  have r0 := Int.emod_nonneg c (show b ≠ 0 by omega)
  have r1 := Int.emod_lt_of_pos c hb
  generalize c / b = q at *
  generalize c % b = r at *
  constructor
  ·intro h
   have := ((Int.ediv_emod_unique (a := -c) (b := b) (r := b - r) (q := -q - 1) hb).2 ⟨by
    have : b * (-q - 1) = -(b * q) - b := by grind
    omega, by omega, by omega⟩).1
   exact this.symm
  ·intro h
   have := ((Int.ediv_emod_unique (a := -c) (b := b) (r := 0) (q := -q) hb).2 ⟨by
    have : b * (-q) = -(b * q) := by grind
    omega, by omega, by omega⟩).1
   exact this.symm
theorem div_bd {a b A : Int} (hb : 0 < b) (h1 : -A ≤ a) (h2 : a ≤ A) : -A ≤ a / b ∧ a / b ≤ A := by
 constructor
 ·rw [Int.le_ediv_iff_mul_le hb]
  have : A * 1 ≤ A * b := Int.mul_le_mul_of_nonneg_left (by omega) (by omega)
  rw [Int.neg_mul]; omega
 ·have h3 : a / b * b ≤ a := Int.ediv_mul_le a (by omega)
  rcases Int.lt_or_le (a / b) 0 with g | g
  ·omega
  ·have : a / b * 1 ≤ a / b * b := Int.mul_le_mul_of_nonneg_left (by omega) g
   omega
theorem down_is {a b : Int} (hb : 0 < b) (h1 : -4611686018427387904 ≤ a) (h2 : a ≤ 4611686018427387904) : impl_down.f a b = some (a / b) := by
 have t := tdiv_down (a := a) hb
 have d := div_bd hb h1 h2
 unfold impl_down.f
 rw [if_neg (by omega)]
 by_cases c : Int.tmod a b < 0
 ·rw [if_pos c]
  have e := t.1 c
  rw [w64 (x := Int.tdiv a b) (by omega) (by omega), e, w64 (by omega) (by omega)]
 ·rw [if_neg c]
  have e := t.2 c
  rw [e, w64 (by omega) (by omega)]
theorem upd_bd {a b A : Int} (hb : 0 < b) (h1 : -A ≤ a) (h2 : a ≤ A) : -A ≤ upd a b ∧ upd a b ≤ A := by
 have := div_bd (a := -a) (A := A) hb (by omega) (by omega)
 unfold upd
 omega
theorem up_is {a b : Int} (hb : 0 < b) (h1 : -4611686018427387904 ≤ a) (h2 : a ≤ 4611686018427387904) : impl_up.f a b = some (upd a b) := by
 have d := upd_bd hb h1 h2
 unfold impl_up.f
 rw [w64 (x := -a) (by omega) (by omega), down_is hb (by omega) (by omega)]
 simp only [Option.bind_some]
 unfold upd at *
 rw [w64 (by omega) (by omega)]
theorem sdown_is {a b : Int} (hb : 0 < b) (hb2 : b ≤ 2305843009213693952) (h1 : -4611686018427387904 ≤ a) (h2 : a ≤ 4611686018427387904) : spec_l1Down.f a b = some (a / b) := by
 have d := div_bd hb h1 h2
 unfold spec_l1Down.f
 by_cases c : a ≥ 0
 ·rw [if_pos c, if_neg (by omega), Int.tdiv_eq_ediv_of_nonneg c, w64 (by omega) (by omega)]
 ·rw [if_neg c, if_neg (by omega), w64 (x := -a) (by omega) (by omega), w64 (x := -a + b) (by omega) (by omega), w64 (x := -a + b - 1) (by omega) (by omega), Int.tdiv_eq_ediv_of_nonneg (by omega)]
  have e := Int.mul_ediv_add_emod (-a + b - 1) b
  have r0 := Int.emod_nonneg (-a + b - 1) (show b ≠ 0 by omega)
  have r1 := Int.emod_lt_of_pos (-a + b - 1) hb
  generalize (-a + b - 1) / b = q at *
  generalize (-a + b - 1) % b = r at *
  have := ((Int.ediv_emod_unique (a := a) (b := b) (r := b - 1 - r) (q := -q) hb).2 ⟨by
    have : b * (-q) = -(b * q) := by grind
    omega, by omega, by omega⟩).1
  rw [w64 (x := q) (by omega) (by omega), w64 (by omega) (by omega), this]
theorem sup_is {a b : Int} (hb : 0 < b) (hb2 : b ≤ 2305843009213693952) (h1 : -4611686018427387904 ≤ a) (h2 : a ≤ 4611686018427387904) : spec_l1Up.f a b = some (upd a b) := by
 have d := upd_bd hb h1 h2
 unfold spec_l1Up.f
 rw [w64 (x := -a) (by omega) (by omega), sdown_is hb hb2 (by omega) (by omega)]
 simp only [Option.bind_some]
 unfold upd at *
 rw [w64 (by omega) (by omega)]
/-- The program's row is the row. -/
theorem row_l_is (lo hi : Int) (hl : 0 ≤ lo) (hl1 : lo ≤ 1000000000) (hh : 0 ≤ hi) (hh1 : hi ≤ 1000000000) (d : Nat) : ∀ (k m : Nat) (n : Int) (b : Bool) (sl sh tl th : Int),
  0 < n → 40 ≤ n + 2 * d → n ≤ 41 → d < k → d < m → 0 ≤ tl → tl ≤ 1000000000 → 0 ≤ th → th ≤ 1000000000 →
  -((50 - d) * 1000000000) ≤ sl → sl ≤ (50 - d) * 1000000000 → -((50 - d) * 1000000000) ≤ sh → sh ≤ (50 - d) * 1000000000 → d ≤ 25 →
  impl_row.l0 k n lo hi b sl sh tl th = some (rowM m n lo hi b sl sh tl th) := by
 induction d with
 | zero =>
  intro k m n b sl sh tl th h1 h2 h3 h4 h5 h6 h7 h8 h9 g1 g2 g3 g4 g5
  obtain ⟨k, rfl⟩ : ∃ q, k = q + 1 := ⟨k - 1, by omega⟩
  obtain ⟨m, rfl⟩ : ∃ q, m = q + 1 := ⟨m - 1, by omega⟩
  rw [impl_row.l0, rowM]
  by_cases a1 : th = 0
  ·rw [if_pos a1, if_pos a1]
  ·rw [if_neg a1, if_neg a1, if_neg (by omega), if_neg (by omega)]
 | succ d ih =>
  intro k m n b sl sh tl th h1 h2 h3 h4 h5 h6 h7 h8 h9 g1 g2 g3 g4 g5
  obtain ⟨k, rfl⟩ : ∃ q, k = q + 1 := ⟨k - 1, by omega⟩
  obtain ⟨m, rfl⟩ : ∃ q, m = q + 1 := ⟨m - 1, by omega⟩
  rw [impl_row.l0, rowM]
  by_cases a1 : th = 0
  ·rw [if_pos a1, if_pos a1]
  rw [if_neg a1, if_neg a1]
  by_cases a2 : n < 40
  ·rw [if_pos a2, if_pos a2]
   have p0 : 0 ≤ tl * lo := Int.mul_nonneg h6 hl
   have p1 : tl * lo ≤ 1000000000 * 1000000000 := Int.mul_le_mul h7 hl1 hl (by omega)
   have q0 : 0 ≤ th * hi := Int.mul_nonneg h8 hh
   have q1 : th * hi ≤ 1000000000 * 1000000000 := Int.mul_le_mul h9 hh1 hh (by omega)
   have n0 : 0 < n * (n + 1) := Int.mul_pos (by omega) (by omega)
   have n1 : n * (n + 1) ≤ 40 * 41 := Int.mul_le_mul (by omega) (by omega) (by omega) (by omega)
   have a3 : 0 ≤ tl * lo / 1000000000 := by omega
   have a4 : tl * lo / 1000000000 ≤ 1000000000 := by omega
   have b3 : 0 ≤ upd (th * hi) 1000000000 := upd_nonneg (by omega) q0
   have b4 : upd (th * hi) 1000000000 ≤ 1000000000 := upd_le (by omega) (by omega)
   rw [w64 (x := tl * lo) (by omega) (by omega), w64 (x := n + 1) (by omega) (by omega), w64 (x := n * (n + 1)) (by omega) (by omega), w64 (x := th * hi) (by omega) (by omega),
    down_is (b := 1000000000) (by omega) (by omega) (by omega), up_is (b := 1000000000) (by omega) (by omega) (by omega)]
   simp only [Option.bind_some]
   rw [down_is n0 (by omega) (by omega), up_is n0 (by omega) (by omega)]
   simp only [Option.bind_some]
   have c0 : 0 ≤ tl * lo / 1000000000 / (n * (n + 1)) := Int.ediv_nonneg a3 (by omega)
   have c1 := (div_bd n0 (a := tl * lo / 1000000000) (A := 1000000000) (by omega) a4).2
   have e0 : 0 ≤ upd (upd (th * hi) 1000000000) (n * (n + 1)) := upd_nonneg n0 b3
   have e1 := (upd_bd n0 (a := upd (th * hi) 1000000000) (A := 1000000000) (by omega) b4).2
   generalize tl * lo / 1000000000 / (n * (n + 1)) = tl' at *
   generalize upd (upd (th * hi) 1000000000) (n * (n + 1)) = th' at *
   clear p0 p1 q0 q1 n0 n1 a3 a4 b3 b4
   have r1 := ih k m (n + 2) (!b) (sl - th') (sh - tl') tl' th' (by omega) (by omega) (by omega) (by omega) (by omega) c0 c1 e0 e1 (by omega) (by omega) (by omega) (by omega) (by omega)
   have r2 := ih k m (n + 2) (!b) (sl + tl') (sh + th') tl' th' (by omega) (by omega) (by omega) (by omega) (by omega) c0 c1 e0 e1 (by omega) (by omega) (by omega) (by omega) (by omega)
   rw [w64 (x := sl - 1) (by omega) (by omega), w64 (x := sh + 1) (by omega) (by omega), w64 (x := n + 2) (by omega) (by omega), w64 (x := sl - th') (by omega) (by omega), w64 (x := sh - tl') (by omega) (by omega),
    w64 (x := sl + tl') (by omega) (by omega), w64 (x := sh + th') (by omega) (by omega), r1, r2]
   by_cases d1 : th' = 1
   ·by_cases d2 : tl' = 0
    ·rw [if_pos d1, if_pos d2, if_pos ⟨d1, d2⟩]
    ·rw [if_pos d1, if_neg d2, if_neg (show ¬ (th' = 1 ∧ tl' = 0) from fun h => d2 h.2)]
     split <;> rfl
   ·rw [if_neg d1, if_neg (show ¬ (th' = 1 ∧ tl' = 0) from fun h => d1 h.1)]
    split <;> rfl
  ·rw [if_neg a2, if_neg a2]
theorem row_is {f x n : Int} (hf : 0 ≤ f) (hf1 : f ≤ 1000000000) (hx : 0 ≤ x) (hx1 : x ≤ 785398164) (hn : 0 < n) (hn1 : n ≤ 2) {k : Nat} (hk : 30 ≤ k) : impl_row.f k f x n = some (row f x n) := by
 have p0 : 0 ≤ x * x := Int.mul_nonneg hx hx
 have p1 : x * x ≤ 785398164 * 785398164 := Int.mul_le_mul hx1 hx1 hx (by omega)
 have b3 : 0 ≤ upd (x * x) 1000000000 := upd_nonneg (by omega) p0
 have b4 : upd (x * x) 1000000000 ≤ 1000000000 := upd_le (by omega) (by omega)
 unfold impl_row.f row
 rw [w64 (x := x * x) (by omega) (by omega), down_is (b := 1000000000) (by omega) (by omega) (by omega), up_is (b := 1000000000) (by omega) (by omega) (by omega)]
 simp only [Option.bind_some]
 exact row_l_is _ _ (by omega) (by omega) b3 b4 20 k 30 n true f f f f hn (by omega) (by omega) (by omega) (by omega) hf hf1 hf hf1 (by omega) (by omega) (by omega) (by omega) (by omega)
/-- The reference's row is the row. -/
theorem srow_l_is (x : Int) (hx : 0 ≤ x) (hx1 : x ≤ 785398164) (d : Nat) : ∀ (k m : Nat) (n : Int) (b : Bool) (sl sh tl th : Int),
  0 < n → 40 ≤ n + 2 * d → n ≤ 41 → 3 * d + 3 ≤ k → d < m → 0 ≤ tl → tl ≤ 1000000000 → 0 ≤ th → th ≤ 1000000000 →
  -((50 - d) * 1000000000) ≤ sl → sl ≤ (50 - d) * 1000000000 → -((50 - d) * 1000000000) ≤ sh → sh ≤ (50 - d) * 1000000000 → d ≤ 25 →
  spec_l12Row.l0 k x n sl sh tl th b = some (rowM m n (x * x / 1000000000) (upd (x * x) 1000000000) b sl sh tl th) := by
 have x0 : 0 ≤ x * x := Int.mul_nonneg hx hx
 have x1 : x * x ≤ 785398164 * 785398164 := Int.mul_le_mul hx1 hx1 hx (by omega)
 have y0 : 0 ≤ upd (x * x) 1000000000 := upd_nonneg (by omega) x0
 have y1 : upd (x * x) 1000000000 ≤ 1000000000 := upd_le (by omega) (by omega)
 have z0 : 0 ≤ x * x / 1000000000 := by omega
 have z1 : x * x / 1000000000 ≤ 1000000000 := by omega
 have t1 : spec_l12Times.f x x false = some (x * x / 1000000000) := by
  unfold spec_l12Times.f
  rw [if_neg (by decide), w64 (by omega) (by omega), sdown_is (by omega) (by omega) (by omega) (by omega)]; rfl
 have t2 : spec_l12Times.f x x true = some (upd (x * x) 1000000000) := by
  unfold spec_l12Times.f
  rw [if_pos rfl, w64 (by omega) (by omega), sup_is (by omega) (by omega) (by omega) (by omega)]; rfl
 generalize upd (x * x) 1000000000 = hi at *
 generalize x * x / 1000000000 = lo at *
 clear x0 x1
 induction d with
 | zero =>
  intro k m n b sl sh tl th h1 h2 h3 h4 h5 h6 h7 h8 h9 g1 g2 g3 g4 g5
  obtain ⟨k, rfl⟩ : ∃ q, k = q + 1 + 1 := ⟨k - 2, by omega⟩
  obtain ⟨m, rfl⟩ : ∃ q, m = q + 1 := ⟨m - 1, by omega⟩
  rw [spec_l12Row.l0, rowM]
  by_cases a1 : th = 0
  ·rw [if_neg (by omega), if_pos a1, spec_l12Row.j1, if_neg (by decide)]
  ·rw [if_pos (by omega), if_neg a1, if_neg (by omega), spec_l12Row.j1, if_neg (by simp; omega)]
 | succ d ih =>
  intro k m n b sl sh tl th h1 h2 h3 h4 h5 h6 h7 h8 h9 g1 g2 g3 g4 g5
  obtain ⟨k, rfl⟩ : ∃ q, k = q + 1 + 1 + 1 := ⟨k - 3, by omega⟩
  obtain ⟨m, rfl⟩ : ∃ q, m = q + 1 := ⟨m - 1, by omega⟩
  rw [spec_l12Row.l0, rowM]
  by_cases a1 : th = 0
  ·rw [if_neg (by omega), if_pos a1, spec_l12Row.j1, if_neg (by decide)]
  rw [if_pos (by omega), if_neg a1]
  by_cases a2 : n < 40
  ·rw [if_pos a2, spec_l12Row.j1, if_pos (by simp [a2])]
   have p0 : 0 ≤ tl * lo := Int.mul_nonneg h6 z0
   have p1 : tl * lo ≤ 1000000000 * 1000000000 := Int.mul_le_mul h7 z1 z0 (by omega)
   have q0 : 0 ≤ th * hi := Int.mul_nonneg h8 y0
   have q1 : th * hi ≤ 1000000000 * 1000000000 := Int.mul_le_mul h9 y1 y0 (by omega)
   have n0 : 0 < n * (n + 1) := Int.mul_pos (by omega) (by omega)
   have n1 : n * (n + 1) ≤ 40 * 41 := Int.mul_le_mul (by omega) (by omega) (by omega) (by omega)
   have a3 : 0 ≤ tl * lo / 1000000000 := by omega
   have a4 : tl * lo / 1000000000 ≤ 1000000000 := by omega
   have b3 : 0 ≤ upd (th * hi) 1000000000 := upd_nonneg (by omega) q0
   have b4 : upd (th * hi) 1000000000 ≤ 1000000000 := upd_le (by omega) (by omega)
   rw [t1, t2]
   simp only [Option.bind_some]
   have s1 : spec_l12Times.f tl lo false = some (tl * lo / 1000000000) := by
    unfold spec_l12Times.f
    rw [if_neg (by decide), w64 (by omega) (by omega), sdown_is (by omega) (by omega) (by omega) (by omega)]; rfl
   have s2 : spec_l12Times.f th hi true = some (upd (th * hi) 1000000000) := by
    unfold spec_l12Times.f
    rw [if_pos rfl, w64 (by omega) (by omega), sup_is (by omega) (by omega) (by omega) (by omega)]; rfl
   rw [s1, s2, w64 (x := n + 1) (by omega) (by omega), w64 (x := n * (n + 1)) (by omega) (by omega)]
   simp only [Option.bind_some]
   have s3 : spec_l12Over.f (tl * lo / 1000000000) (n * (n + 1)) false = some (tl * lo / 1000000000 / (n * (n + 1))) := by
    unfold spec_l12Over.f
    rw [if_neg (by decide), sdown_is n0 (by omega) (by omega) (by omega)]; rfl
   have s4 : spec_l12Over.f (upd (th * hi) 1000000000) (n * (n + 1)) true = some (upd (upd (th * hi) 1000000000) (n * (n + 1))) := by
    unfold spec_l12Over.f
    rw [if_pos rfl, sup_is n0 (by omega) (by omega) (by omega)]; rfl
   rw [s3, s4]
   simp only [Option.bind_some]
   have c0 : 0 ≤ tl * lo / 1000000000 / (n * (n + 1)) := Int.ediv_nonneg a3 (by omega)
   have c1 := (div_bd n0 (a := tl * lo / 1000000000) (A := 1000000000) (by omega) a4).2
   have e0 : 0 ≤ upd (upd (th * hi) 1000000000) (n * (n + 1)) := upd_nonneg n0 b3
   have e1 := (upd_bd n0 (a := upd (th * hi) 1000000000) (A := 1000000000) (by omega) b4).2
   clear s1 s2 s3 s4
   generalize tl * lo / 1000000000 / (n * (n + 1)) = tl' at *
   generalize upd (upd (th * hi) 1000000000) (n * (n + 1)) = th' at *
   clear p0 p1 q0 q1 n0 n1 a3 a4 b3 b4
   have r1 := ih k m (n + 2) (!b) (sl - th') (sh - tl') tl' th' (by omega) (by omega) (by omega) (by omega) (by omega) c0 c1 e0 e1 (by omega) (by omega) (by omega) (by omega) (by omega)
   have r2 := ih k m (n + 2) (!b) (sl + tl') (sh + th') tl' th' (by omega) (by omega) (by omega) (by omega) (by omega) c0 c1 e0 e1 (by omega) (by omega) (by omega) (by omega) (by omega)
   simp only [spec_l12Row.j2]
   rw [w64 (x := sl - 1) (by omega) (by omega), w64 (x := sh + 1) (by omega) (by omega), w64 (x := n + 2) (by omega) (by omega), w64 (x := sl - th') (by omega) (by omega), w64 (x := sh - tl') (by omega) (by omega),
    w64 (x := sl + tl') (by omega) (by omega), w64 (x := sh + th') (by omega) (by omega), r1, r2]
   by_cases d1 : th' = 1
   ·by_cases d2 : tl' = 0
    ·rw [if_pos d1, if_pos (by simp [d2]), if_pos ⟨d1, d2⟩]
    ·rw [if_pos d1, if_neg (by simp [d2]), if_neg (show ¬ (th' = 1 ∧ tl' = 0) from fun h => d2 h.2)]
     split <;> rfl
   ·rw [if_neg d1, if_neg (by decide), if_neg (show ¬ (th' = 1 ∧ tl' = 0) from fun h => d1 h.1)]
    split <;> rfl
  ·rw [if_neg a2, spec_l12Row.j1, if_neg (by simp; omega)]
theorem srow_is {f x n : Int} (hf : 0 ≤ f) (hf1 : f ≤ 1000000000) (hx : 0 ≤ x) (hx1 : x ≤ 785398164) (hn : 0 < n) (hn1 : n ≤ 2) {k : Nat} (hk : 70 ≤ k) : spec_l12Row.f k f x n = some (row f x n) := by
 unfold spec_l12Row.f row
 exact srow_l_is x hx hx1 20 k 30 n true f f f f hn (by omega) (by omega) (by omega) (by omega) hf hf1 hf hf1 (by omega) (by omega) (by omega) (by omega) (by omega)

end Go.Proofs.Ytlodpfddimeffaa.M
