import Derived.Test.YtlodpfddimeffaaP5
import Derived.Test.YtlodpfddimeffaaMk
import Derived.Test.YtlodpfddimeffaaNi
namespace Go.Proofs.Ytlodpfddimeffaa.M
open Go.RowKit Go.Proofs.YtlodpfddimeffaaW.PrintWords Go.Proofs.YtlodpfddimeffaaW.PrintLast Go.Proofs.YtlodpfddimeffaaW.PrintMore
attribute [local go_sem] max2_int min2_int max_two min_two max_three min_three max_four min_four
attribute [local go_sem high] eqA31
attribute [local go_sem] fld31_0 fld31_1 fld25_0 fld25_1 fld25_2 fld25_3
set_option linter.unusedVariables false
set_option linter.unusedSimpArgs false
/-! ### numbers reckoned exactly: the model -/
def least1 (a b : Int) : Int × Int × Bool := if isNum (a / (Int.gcd a b : Int)) (b / (Int.gcd a b : Int)) then (a / (Int.gcd a b : Int), b / (Int.gcd a b : Int), true) else (0, 0, false)
def leastM (a b : Int) : Int × Int × Bool := if b = 0 then (0, 0, false) else if b < 0 then least1 (-a) (-b) else least1 a b
def halfOk (a : Int) : Prop := -576460752303423488 ≤ a ∧ a ≤ 576460752303423488
instance (a : Int) : Decidable (halfOk a) := by unfold halfOk; exact inferInstance
def ratOp (f0 f1 f2 : Int) (s t : Int × Int) : Int × Int × Bool :=
 if f0 = 1 then leastM f1 f2 else if f0 = 2 then (-s.1, s.2, true)
 else if f0 = 5 then (if halfOk (s.1 * t.2) ∧ halfOk (t.1 * s.2) then leastM (s.1 * t.2 + t.1 * s.2) (s.2 * t.2) else (0, 0, false))
 else if f0 = 6 then (if halfOk (s.1 * t.2) ∧ halfOk (t.1 * s.2) then leastM (s.1 * t.2 - t.1 * s.2) (s.2 * t.2) else (0, 0, false))
 else if f0 = 7 then leastM (s.1 * t.1) (s.2 * t.2) else if f0 = 8 then leastM (s.1 * t.2) (t.1 * s.2) else (0, 0, false)
mutual
def ratM : S25 → Int × Int × Bool
 | ⟨f0, f1, f2, l⟩ => if (ratsM l).1 = true then ratOp f0 f1 f2 ((ratsM l).2.getD 0 (0, 0)) ((ratsM l).2.getD 1 (0, 0)) else (0, 0, false)
def ratsM : List S25 → Bool × List (Int × Int)
 | [] => (true, [])
 | x :: l => if (ratM x).2.2 = true then ((ratsM l).1, ((ratM x).1, (ratM x).2.1) :: (ratsM l).2) else (false, [])
end
theorem rat_0 (f0 f1 f2 : Int) : ratM ⟨f0, f1, f2, []⟩ = ratOp f0 f1 f2 (0, 0) (0, 0) := by rw [ratM, ratsM]; rfl
theorem rat_1 (f0 f1 f2 : Int) (x : S25) : ratM ⟨f0, f1, f2, [x]⟩ = if (ratM x).2.2 = true then ratOp f0 f1 f2 ((ratM x).1, (ratM x).2.1) (0, 0) else (0, 0, false) := by
 rw [ratM, ratsM, ratsM]
 by_cases c : (ratM x).2.2 = true
 ·rw [if_pos c, if_pos c, if_pos rfl]; rfl
 ·rw [if_neg c, if_neg c]; rfl
theorem rat_2 (f0 f1 f2 : Int) (x y : S25) : ratM ⟨f0, f1, f2, [x, y]⟩ = if (ratM x).2.2 = true then (if (ratM y).2.2 = true then ratOp f0 f1 f2 ((ratM x).1, (ratM x).2.1) ((ratM y).1, (ratM y).2.1) else (0, 0, false)) else (0, 0, false) := by
 rw [ratM, ratsM, ratsM, ratsM]
 by_cases c : (ratM x).2.2 = true
 ·rw [if_pos c, if_pos c]
  by_cases d : (ratM y).2.2 = true
  ·rw [if_pos d, if_pos d, if_pos rfl]; rfl
  ·rw [if_neg d, if_neg d]; rfl
 ·rw [if_neg c, if_neg c]; rfl
/-- In the smallest numbers. -/
def LeastQ (x : Int × Int × Bool) : Prop := (x.2.2 = true ∧ isNum x.1 x.2.1 ∧ Int.gcd x.1 x.2.1 = 1) ∨ x = (0, 0, false)
theorem LeastQ.none {x : Int × Int × Bool} (h : LeastQ x) (c : ¬ x.2.2 = true) : x = (0, 0, false) := by
 rcases h with h | h
 ·exact absurd h.1 c
 ·exact h
theorem LeastQ.num {x : Int × Int × Bool} (h : LeastQ x) (c : x.2.2 = true) : isNum x.1 x.2.1 ∧ Int.gcd x.1 x.2.1 = 1 := by
 rcases h with h | h
 ·exact h.2
 ·rw [h] at c; cases c
theorem gcd_pos_r {a b : Int} (hb : 0 < b) : 0 < (Int.gcd a b : Int) := by
 have : Int.gcd a b ≠ 0 := fun h => by have := (Int.gcd_eq_zero_iff.1 h).2; omega
 omega
theorem least1_is {a b : Int} (hb : 0 < b) : LeastQ (least1 a b) := by
 unfold least1
 by_cases c : isNum (a / (Int.gcd a b : Int)) (b / (Int.gcd a b : Int))
 ·rw [if_pos c]
  refine .inl ⟨rfl, c, ?_⟩
  have g := gcd_pos_r (a := a) hb
  show Int.gcd (a / (Int.gcd a b : Int)) (b / (Int.gcd a b : Int)) = 1
  have := Int.gcd_ediv_gcd_ediv_gcd (i := a) (j := b) (by omega)
  exact this
 ·rw [if_neg c]; exact .inr rfl
theorem leastM_is (a b : Int) : LeastQ (leastM a b) := by
 unfold leastM
 split
 ·exact .inr rfl
 split
 ·exact least1_is (by omega)
 ·exact least1_is (by omega)
/-! ### the greatest common divisor: both tell it -/
theorem gcd_tmod (a b : Int) : Int.gcd b (Int.tmod a b) = Int.gcd a b := by
 unfold Int.gcd
 rw [Int.natAbs_tmod, Nat.gcd_comm b.natAbs, ← Nat.gcd_rec, Nat.gcd_comm]
theorem mod_half {m n d : Nat} (h : m < 2 ^ (d + 1)) (hn : 0 < n) (hm : n ≤ m) : m % n < 2 ^ d := by
 rw [Nat.pow_succ] at h
 rcases Nat.lt_or_ge (2 ^ d) n with c | c
 ·rw [Nat.mod_eq_sub_mod hm, Nat.mod_eq_of_lt (by omega)]; omega
 ·have := Nat.mod_lt m hn; omega
theorem common_loop (d : Nat) : ∀ (a b : Int) (k : Nat), b.natAbs < 2 ^ d → -4611686018427387904 ≤ a → a ≤ 4611686018427387904 → 2 * d + 1 ≤ k → -4611686018427387904 ≤ b → b ≤ 4611686018427387904 → impl_common.l0 k a b = some (Int.gcd a b : Int) := by
 have zero : ∀ (a : Int) (k : Nat), -4611686018427387904 ≤ a → a ≤ 4611686018427387904 → impl_common.l0 (k + 1) a 0 = some (Int.gcd a 0 : Int) := by
  intro a k h1 h2
  rw [impl_common.l0, if_pos rfl, mx_is, w64 (x := -a) (by omega) (by omega), Int.gcd_zero_right]
  congr 1
  omega
 induction d with
 | zero =>
  intro a b k h h1 h2 hk _ _
  obtain ⟨k, rfl⟩ : ∃ q, k = q + 1 := ⟨k - 1, by omega⟩
  have : b = 0 := by simp at h; omega
  subst this
  exact zero a k h1 h2
 | succ d ih =>
  intro a b k h h1 h2 hk h3 h4
  obtain ⟨k, rfl⟩ : ∃ q, k = q + 1 + 1 + 1 := ⟨k - 3, by omega⟩
  by_cases b0 : b = 0
  ·subst b0; exact zero a _ h1 h2
  rw [impl_common.l0, if_neg b0, ← gcd_tmod a b]
  have e : (Int.tmod a b).natAbs = a.natAbs % b.natAbs := Int.natAbs_tmod a b
  have l := Nat.mod_lt a.natAbs (show 0 < b.natAbs by omega)
  by_cases r0 : Int.tmod a b = 0
  ·rw [r0]; exact zero b _ h3 h4
  rw [impl_common.l0, if_neg r0, ← gcd_tmod b]
  have e2 : (Int.tmod b (Int.tmod a b)).natAbs = b.natAbs % (Int.tmod a b).natAbs := Int.natAbs_tmod _ _
  have l2 := Nat.mod_lt b.natAbs (show 0 < (Int.tmod a b).natAbs by omega)
  exact ih _ _ (k + 1) (by rw [e2]; exact mod_half h (by omega) (by omega)) (by omega) (by omega) (by omega) (by omega) (by omega)
theorem sgcd_loop (d : Nat) : ∀ (a b : Int) (k : Nat), b.natAbs < 2 ^ d → 0 ≤ a → 2 * d + 1 ≤ k → 0 ≤ b → spec_l31Gcd.l0 k a b = some (Int.gcd a b : Int) := by
 have zero : ∀ (a : Int) (k : Nat), 0 ≤ a → spec_l31Gcd.l0 (k + 1) a 0 = some (Int.gcd a 0 : Int) := by
  intro a k h1
  rw [spec_l31Gcd.l0, if_neg (by omega), Int.gcd_zero_right]
  congr 1
  omega
 induction d with
 | zero =>
  intro a b k h h1 hk _
  obtain ⟨k, rfl⟩ : ∃ q, k = q + 1 := ⟨k - 1, by omega⟩
  have : b = 0 := by simp at h; omega
  subst this
  exact zero a k h1
 | succ d ih =>
  intro a b k h h1 hk h3
  obtain ⟨k, rfl⟩ : ∃ q, k = q + 1 + 1 + 1 := ⟨k - 3, by omega⟩
  by_cases b0 : b = 0
  ·subst b0; exact zero a _ h1
  rw [spec_l31Gcd.l0, if_pos (show b > 0 by omega), if_neg b0, ← gcd_tmod a b]
  have e : (Int.tmod a b).natAbs = a.natAbs % b.natAbs := Int.natAbs_tmod a b
  have p : 0 ≤ Int.tmod a b := Int.tmod_nonneg _ h1
  have l := Nat.mod_lt a.natAbs (show 0 < b.natAbs by omega)
  by_cases r0 : Int.tmod a b = 0
  ·rw [r0]; exact zero b _ h3
  rw [spec_l31Gcd.l0, if_pos (show Int.tmod a b > 0 by omega), if_neg r0, ← gcd_tmod b]
  have e2 : (Int.tmod b (Int.tmod a b)).natAbs = b.natAbs % (Int.tmod a b).natAbs := Int.natAbs_tmod _ _
  have p2 : 0 ≤ Int.tmod b (Int.tmod a b) := Int.tmod_nonneg _ h3
  have l2 := Nat.mod_lt b.natAbs (show 0 < (Int.tmod a b).natAbs by omega)
  exact ih _ _ (k + 1) (by rw [e2]; exact mod_half h (by omega) (by omega)) (by omega) (by omega) (by omega)
theorem tdiv_exact {a g : Int} (h : g ∣ a) : Int.tdiv a g = a / g := Int.tdiv_eq_ediv_of_dvd h
/-! ### numbers reckoned exactly: both tell the same -/
theorem least_bd {a b : Int} (hb : 0 < b) : 0 < (Int.gcd a b : Int) ∧ (Int.gcd a b : Int) ∣ a ∧ (Int.gcd a b : Int) ∣ b ∧ 0 < b / (Int.gcd a b : Int) := by
 have g := gcd_pos_r (a := a) hb
 have d2 : (Int.gcd a b : Int) ∣ b := Int.gcd_dvd_right ..
 exact ⟨g, Int.gcd_dvd_left .., d2, Int.ediv_pos_of_pos_of_dvd hb (by omega) d2⟩
theorem least_j0 {a b : Int} (h1 : -1152921504606846976 ≤ a) (h2 : a ≤ 1152921504606846976) (hb : 0 < b) (hb2 : b ≤ 1152921504606846976) {k : Nat} (hk : 130 ≤ k) :
  impl_least.j0 k a b = some (least1 a b) ∧ spec_l31Least.j0 k a b = some (least1 a b) := by
 obtain ⟨k, rfl⟩ : ∃ q, k = q + 1 := ⟨k - 1, by omega⟩
 have g1 : impl_common.f k a b = some (Int.gcd a b : Int) := common_loop 61 a b k (by omega) (by omega) (by omega) (by omega) (by omega) (by omega)
 have ge : Int.gcd (max a (-a)) b = Int.gcd a b := by unfold Int.gcd; congr 1; omega
 have g2 : spec_l31Gcd.f k (mx a (wrap64 (-a))) b = some (Int.gcd a b : Int) := by
  rw [mx_is, w64 (x := -a) (by omega) (by omega), ← ge]
  exact sgcd_loop 61 (max a (-a)) b k (by omega) (by omega) (by omega) (by omega)
 obtain ⟨gp, da, db, bp⟩ := least_bd (a := a) hb
 rw [impl_least.j0, spec_l31Least.j0, g1, g2]
 unfold least1
 generalize (Int.gcd a b : Int) = g at *
 have m : mx g 1 = g := by rw [mx_is]; omega
 have b1 := div_bd (a := a) (b := g) (A := 1152921504606846976) gp (by omega) (by omega)
 have b2 := div_bd (a := b) (b := g) (A := 1152921504606846976) gp (by omega) (by omega)
 simp only [Option.bind_some]
 rw [m, if_neg (show ¬ g = 0 by omega), if_neg (show ¬ g = 0 by omega), tdiv_exact da, tdiv_exact db, w64 (x := a / g) (by omega) (by omega), w64 (x := b / g) (by omega) (by omega), (isNum_is _ _).1, sin_is]
 simp only [Option.bind_some]
 by_cases c : isNum (a / g) (b / g)
 ·have c1 : -1000000000 ≤ a / g ∧ a / g ≤ 1000000000 := c.1
  have c2 : b / g ≤ 1000000000 := c.2.2
  rw [decide_eq_true c, if_pos rfl, if_pos c, decide_eq_true c1, if_pos rfl, if_neg (by omega)]
  exact ⟨rfl, rfl⟩
 ·rw [decide_eq_false c, if_neg (show ¬ (false = true) by decide), if_neg c]
  by_cases c1 : -1000000000 ≤ a / g ∧ a / g ≤ 1000000000
  ·have c2 : b / g > 1000000000 := by
    rcases Int.lt_or_le 1000000000 (b / g) with h | h
    ·exact h
    ·exact absurd (show isNum (a / g) (b / g) from ⟨c1, by omega, h⟩) c
   rw [decide_eq_true c1, if_pos rfl, if_pos c2]
   exact ⟨rfl, rfl⟩
  ·rw [decide_eq_false c1, if_neg (show ¬ (false = true) by decide)]
   exact ⟨rfl, rfl⟩
theorem least_is {a b : Int} (h1 : -1152921504606846976 ≤ a) (h2 : a ≤ 1152921504606846976) (h3 : -1152921504606846976 ≤ b) (h4 : b ≤ 1152921504606846976) {k : Nat} (hk : 130 ≤ k) :
  impl_least.f k a b = some (leastM a b) ∧ spec_l31Least.f k a b = some (leastM a b) := by
 unfold impl_least.f spec_l31Least.f leastM
 by_cases c : b = 0
 ·rw [if_pos c, if_pos c, if_pos c]; exact ⟨rfl, rfl⟩
 rw [if_neg c, if_neg c, if_neg c]
 by_cases d : b < 0
 ·rw [if_pos d, if_pos d, if_pos d, w64 (x := -a) (by omega) (by omega), w64 (x := -b) (by omega) (by omega)]
  exact least_j0 (by omega) (by omega) (by omega) (by omega) hk
 ·rw [if_neg d, if_neg d, if_neg d]
  exact least_j0 (by omega) (by omega) (by omega) (by omega) hk
def BdQ (s : Int × Int) : Prop := (-1000000000 ≤ s.1 ∧ s.1 ≤ 1000000000) ∧ (0 ≤ s.2 ∧ s.2 ≤ 1000000000)
theorem bd_mul {a b : Int} (h1 : -1000000000 ≤ a) (h2 : a ≤ 1000000000) (h3 : -1000000000 ≤ b) (h4 : b ≤ 1000000000) : -1000000000000000000 ≤ a * b ∧ a * b ≤ 1000000000000000000 := by
 have := mul_bd (A := 1000000000) (B := 1000000000) h1 h2 h3 h4
 omega
theorem rat_op {f0 f1 f2 : Int} {s t : Int × Int} (hs : BdQ s) (ht : BdQ t) (hf : fineM f0 f1 f2) {k : Nat} (hk : 140 ≤ k) :
  impl_Expr_rat.op k f0 f1 f2 s.1 t.1 s.2 t.2 = some (ratOp f0 f1 f2 s t) := by
 obtain ⟨⟨s1, s2⟩, s3, s4⟩ := hs
 obtain ⟨⟨t1, t2⟩, t3, t4⟩ := ht
 have p1 := bd_mul (a := s.1) (b := t.2) (by omega) (by omega) (by omega) (by omega)
 have p2 := bd_mul (a := t.1) (b := s.2) (by omega) (by omega) (by omega) (by omega)
 have p3 := bd_mul (a := s.2) (b := t.2) (by omega) (by omega) (by omega) (by omega)
 have p4 := bd_mul (a := s.1) (b := t.1) (by omega) (by omega) (by omega) (by omega)
 unfold impl_Expr_rat.op ratOp
 rw [w64 (x := s.1 * t.2) (by omega) (by omega), w64 (x := t.1 * s.2) (by omega) (by omega), w64 (x := s.2 * t.2) (by omega) (by omega), w64 (x := s.1 * t.1) (by omega) (by omega)]
 by_cases c1 : f0 = 1
 ·unfold fineM at hf
  rw [if_pos c1] at hf
  rw [if_pos c1, if_pos c1, (least_is (by omega) (by omega) (by omega) (by omega) (by omega)).1]
 rw [if_neg c1, if_neg c1]
 by_cases c2 : f0 = 2
 ·rw [if_pos c2, if_pos c2, w64 (x := -s.1) (by omega) (by omega)]
 rw [if_neg c2, if_neg c2]
 have half : ∀ (r : Option (Int × Int × Bool)) (q : Int × Int × Bool), (halfOk (s.1 * t.2) ∧ halfOk (t.1 * s.2) → r = some q) →
   ((impl_in.f (s.1 * t.2) (-576460752303423488) 576460752303423488).bind fun a => if a = true then ((impl_in.f (t.1 * s.2) (-576460752303423488) 576460752303423488).bind fun b => if b = true then r else some (0, 0, false)) else some (0, 0, false)) = some (if halfOk (s.1 * t.2) ∧ halfOk (t.1 * s.2) then q else (0, 0, false)) := by
  intro r q hr
  rw [in_is, in_is]
  simp only [Option.bind_some]
  by_cases x : halfOk (s.1 * t.2)
  ·rw [decide_eq_true (show -576460752303423488 ≤ s.1 * t.2 ∧ s.1 * t.2 ≤ 576460752303423488 from x), if_pos rfl]
   by_cases y : halfOk (t.1 * s.2)
   ·rw [decide_eq_true (show -576460752303423488 ≤ t.1 * s.2 ∧ t.1 * s.2 ≤ 576460752303423488 from y), if_pos rfl, if_pos ⟨x, y⟩]
    exact hr ⟨x, y⟩
   ·rw [decide_eq_false (show ¬ (-576460752303423488 ≤ t.1 * s.2 ∧ t.1 * s.2 ≤ 576460752303423488) from y), if_neg (show ¬ (false = true) by decide), if_neg (fun h => y h.2)]
  ·rw [decide_eq_false (show ¬ (-576460752303423488 ≤ s.1 * t.2 ∧ s.1 * t.2 ≤ 576460752303423488) from x), if_neg (show ¬ (false = true) by decide), if_neg (fun h => x h.1)]
 by_cases c5 : f0 = 5
 ·rw [if_pos c5, if_pos c5]
  refine half _ _ (fun h => ?_)
  obtain ⟨⟨h1, h2⟩, h3, h4⟩ := h
  rw [w64 (x := s.1 * t.2 + t.1 * s.2) (by omega) (by omega)]
  exact (least_is (by omega) (by omega) (by omega) (by omega) (by omega)).1
 rw [if_neg c5, if_neg c5]
 by_cases c6 : f0 = 6
 ·rw [if_pos c6, if_pos c6]
  refine half _ _ (fun h => ?_)
  obtain ⟨⟨h1, h2⟩, h3, h4⟩ := h
  rw [w64 (x := s.1 * t.2 - t.1 * s.2) (by omega) (by omega)]
  exact (least_is (by omega) (by omega) (by omega) (by omega) (by omega)).1
 rw [if_neg c6, if_neg c6]
 by_cases c7 : f0 = 7
 ·rw [if_pos c7, if_pos c7]
  exact (least_is (by omega) (by omega) (by omega) (by omega) (by omega)).1
 rw [if_neg c7, if_neg c7]
 by_cases c8 : f0 = 8
 ·rw [if_pos c8, if_pos c8]
  exact (least_is (by omega) (by omega) (by omega) (by omega) (by omega)).1
 rw [if_neg c8, if_neg c8]
theorem srat_two {f0 f1 f2 : Int} {s t : Int × Int} (hs : BdQ s) (ht : BdQ t) (hf : 5 ≤ f0 ∧ f0 ≤ 8) {k : Nat} (hk : 140 ≤ k) :
  spec_l31Two.f k f0 s.1 s.2 t.1 t.2 = some (ratOp f0 f1 f2 s t) := by
 obtain ⟨k, rfl⟩ : ∃ q, k = q + 1 := ⟨k - 1, by omega⟩
 obtain ⟨⟨s1, s2⟩, s3, s4⟩ := hs
 obtain ⟨⟨t1, t2⟩, t3, t4⟩ := ht
 have p1 := bd_mul (a := s.1) (b := t.2) (by omega) (by omega) (by omega) (by omega)
 have p2 := bd_mul (a := t.1) (b := s.2) (by omega) (by omega) (by omega) (by omega)
 have p3 := bd_mul (a := s.2) (b := t.2) (by omega) (by omega) (by omega) (by omega)
 have p4 := bd_mul (a := s.1) (b := t.1) (by omega) (by omega) (by omega) (by omega)
 have e5 : s.2 * t.1 = t.1 * s.2 := Int.mul_comm _ _
 have en : -t.1 * s.2 = -(t.1 * s.2) := Int.neg_mul _ _
 unfold spec_l31Two.f ratOp
 rw [if_neg (show ¬ f0 = 1 by omega), if_neg (show ¬ f0 = 2 by omega)]
 by_cases c6 : f0 = 6
 ·rw [if_pos c6, if_neg (show ¬ f0 = 5 by omega), if_pos c6, spec_l31Two.j0, if_neg (show ¬ f0 = 7 by omega), if_neg (show ¬ f0 = 8 by omega), w64 (x := -t.1) (by omega) (by omega), en, w64 (x := s.1 * t.2) (by omega) (by omega), w64 (x := -(t.1 * s.2)) (by omega) (by omega), w64 (x := s.2 * t.2) (by omega) (by omega), sin_is, sin_is]
  simp only [Option.bind_some]
  by_cases x : halfOk (s.1 * t.2)
  ·rw [decide_eq_true (show -576460752303423488 ≤ s.1 * t.2 ∧ s.1 * t.2 ≤ 576460752303423488 from x), if_pos rfl]
   by_cases y : halfOk (t.1 * s.2)
   ·have y2 := y; have x2 := x
    obtain ⟨y3, y4⟩ := y2
    obtain ⟨x3, x4⟩ := x2
    rw [decide_eq_true (show -576460752303423488 ≤ -(t.1 * s.2) ∧ -(t.1 * s.2) ≤ 576460752303423488 by omega), if_pos rfl, if_pos ⟨x, y⟩, ← Int.sub_eq_add_neg, w64 (x := s.1 * t.2 - t.1 * s.2) (by omega) (by omega), (least_is (by omega) (by omega) (by omega) (by omega) (by omega)).2]
    rfl
   ·have y2 : ¬ (-576460752303423488 ≤ -(t.1 * s.2) ∧ -(t.1 * s.2) ≤ 576460752303423488) := fun h => y ⟨by omega, by omega⟩
    rw [decide_eq_false y2, if_neg (show ¬ (false = true) by decide), if_neg (fun h => y h.2)]
  ·rw [decide_eq_false (show ¬ (-576460752303423488 ≤ s.1 * t.2 ∧ s.1 * t.2 ≤ 576460752303423488) from x), if_neg (show ¬ (false = true) by decide), if_neg (fun h => x h.1)]
 rw [if_neg c6, if_neg c6, spec_l31Two.j0]
 by_cases c7 : f0 = 7
 ·rw [if_pos c7, if_neg (show ¬ f0 = 5 by omega), if_pos c7, w64 (x := s.1 * t.1) (by omega) (by omega), w64 (x := s.2 * t.2) (by omega) (by omega), (least_is (by omega) (by omega) (by omega) (by omega) (by omega)).2]
  rfl
 rw [if_neg c7]
 by_cases c8 : f0 = 8
 ·rw [if_pos c8, if_neg (show ¬ f0 = 5 by omega), if_neg c7, if_pos c8, w64 (x := s.1 * t.2) (by omega) (by omega), e5, w64 (x := t.1 * s.2) (by omega) (by omega), (least_is (by omega) (by omega) (by omega) (by omega) (by omega)).2]
  rfl
 have c5 : f0 = 5 := by omega
 rw [if_neg c8, if_pos c5, w64 (x := s.1 * t.2) (by omega) (by omega), w64 (x := t.1 * s.2) (by omega) (by omega), w64 (x := s.2 * t.2) (by omega) (by omega), sin_is, sin_is]
 simp only [Option.bind_some]
 by_cases x : halfOk (s.1 * t.2)
 ·rw [decide_eq_true (show -576460752303423488 ≤ s.1 * t.2 ∧ s.1 * t.2 ≤ 576460752303423488 from x), if_pos rfl]
  by_cases y : halfOk (t.1 * s.2)
  ·have y2 := y; have x2 := x
   obtain ⟨y3, y4⟩ := y2
   obtain ⟨x3, x4⟩ := x2
   rw [decide_eq_true (show -576460752303423488 ≤ t.1 * s.2 ∧ t.1 * s.2 ≤ 576460752303423488 from y), if_pos rfl, if_pos ⟨x, y⟩, w64 (x := s.1 * t.2 + t.1 * s.2) (by omega) (by omega), (least_is (by omega) (by omega) (by omega) (by omega) (by omega)).2]
   rfl
  ·rw [decide_eq_false (show ¬ (-576460752303423488 ≤ t.1 * s.2 ∧ t.1 * s.2 ≤ 576460752303423488) from y), if_neg (show ¬ (false = true) by decide), if_neg (fun h => y h.2)]
 ·rw [decide_eq_false (show ¬ (-576460752303423488 ≤ s.1 * t.2 ∧ s.1 * t.2 ≤ 576460752303423488) from x), if_neg (show ¬ (false = true) by decide), if_neg (fun h => x h.1)]
theorem w_neg0 : some (wrap64 (-(((0 : Int), (0 : Int), false) : Int × Int × Bool).1), (0 : Int), false) = some ((0 : Int), (0 : Int), false) := by
 show some (wrap64 (-0), (0 : Int), false) = _
 rw [w64 (x := -0) (by omega) (by omega)]
 rfl
theorem bd00 : BdQ (0, 0) := ⟨⟨by decide, by decide⟩, by decide, by decide⟩
theorem LeastQ.bd {x : Int × Int × Bool} (h : LeastQ x) (c : x.2.2 = true) : BdQ (x.1, x.2.1) := by
 obtain ⟨⟨⟨a, b⟩, d, e⟩, -⟩ := h.num c
 exact ⟨⟨a, b⟩, by show 0 ≤ x.2.1; omega, e⟩
theorem op_least {f0 f1 f2 : Int} {s t : Int × Int} (h : f0 = 2 → isNum s.1 s.2 ∧ Int.gcd s.1 s.2 = 1) : LeastQ (ratOp f0 f1 f2 s t) := by
 have bad : LeastQ (0, 0, false) := .inr rfl
 unfold ratOp
 split
 ·exact leastM_is _ _
 split
 ·rename_i c
  obtain ⟨⟨⟨a, b⟩, d, e⟩, g⟩ := h c
  refine .inl ⟨rfl, ⟨⟨?_, ?_⟩, d, e⟩, ?_⟩
  ·show -1000000000 ≤ -s.1; omega
  ·show -s.1 ≤ 1000000000; omega
  ·show Int.gcd (-s.1) s.2 = 1
   rw [Int.neg_gcd]; exact g
 split
 ·split
  ·exact leastM_is _ _
  ·exact bad
 split
 ·split
  ·exact leastM_is _ _
  ·exact bad
 split
 ·exact leastM_is _ _
 split
 ·exact leastM_is _ _
 ·exact bad
theorem rat_step0 {k : Nat} {n0 n1 d0 d1 f0 f1 f2 : Int} {l : List S25} {x : S25} (h : 0 < (l.length : Int)) (hx : rd_T25 l 0 = x) (hr : impl_Expr_rat.f k x.f0 x.f1 x.f2 x.f3 = some (ratM x)) :
  impl_Expr_rat.l0 (k + 1) n0 n1 d0 d1 0 f0 f1 f2 l = if (ratM x).2.2 = true then impl_Expr_rat.l0 k (ratM x).1 n1 (ratM x).2.1 d1 1 f0 f1 f2 l else some (0, 0, false) := by
 rw [impl_Expr_rat.l0, if_pos h, if_pos rfl, hx, hr]
 rfl
theorem rat_step1 {k : Nat} {n0 n1 d0 d1 f0 f1 f2 : Int} {l : List S25} {x : S25} (h : 1 < (l.length : Int)) (hx : rd_T25 l 1 = x) (hr : impl_Expr_rat.f k x.f0 x.f1 x.f2 x.f3 = some (ratM x)) :
  impl_Expr_rat.l0 (k + 1) n0 n1 d0 d1 1 f0 f1 f2 l = if (ratM x).2.2 = true then impl_Expr_rat.l0 k n0 (ratM x).1 d0 (ratM x).2.1 2 f0 f1 f2 l else some (0, 0, false) := by
 rw [impl_Expr_rat.l0, if_pos h, if_neg (show ¬ ((1 : Int) = 0) by decide), if_pos rfl, hx, hr]
 rfl
theorem rat_end {k : Nat} {n0 n1 d0 d1 i f0 f1 f2 : Int} {l : List S25} (h : ¬ i < (l.length : Int)) : impl_Expr_rat.l0 (k + 1) n0 n1 d0 d1 i f0 f1 f2 l = impl_Expr_rat.op k f0 f1 f2 n0 n1 d0 d1 := by
 rw [impl_Expr_rat.l0, if_neg h]
theorem kinds_n {f0 : Int} {n : Nat} (h : (n : Int) = kidsN f0) : (n = 0 → f0 = 1 ∨ f0 = 4) ∧ (n = 1 → f0 = 2 ∨ f0 = 3) ∧ (n = 2 → 5 ≤ f0 ∧ f0 ≤ 8) := by
 unfold kidsN at h
 split at h
 ·omega
 split at h
 ·omega
 split at h
 ·omega
 ·omega
theorem op_34 {f0 f1 f2 : Int} {s t : Int × Int} (h : f0 = 3 ∨ f0 = 4) : ratOp f0 f1 f2 s t = (0, 0, false) := by
 unfold ratOp
 rw [if_neg (by omega), if_neg (by omega), if_neg (by omega), if_neg (by omega), if_neg (by omega), if_neg (by omega)]
theorem rats_is (N : Nat) : ∀ e : S25, nodes e ≤ N → sizeM e ≤ 15 → LeastQ (ratM e) ∧ ∀ k, 20 * nodes e + 160 ≤ k → impl_Expr_rat.f k e.f0 e.f1 e.f2 e.f3 = some (ratM e) ∧ spec_l31Rat.f k e.f0 e.f1 e.f2 e.f3 = some (ratM e) := by
 induction N with
 | zero => intro e h; have := nodes_pos e; omega
 | succ N ih =>
  intro e h hs
  obtain ⟨f0, f1, f2, l⟩ := e
  obtain ⟨hd, hz⟩ := ok_parts hs
  rw [hz] at hs
  rw [nodes] at h ⊢
  obtain ⟨hf, hn⟩ := kind_of hd.1
  obtain ⟨k0, k1, k2⟩ := kinds_n hd.1
  match l, hd, hz, hs, h, hn, k0, k1, k2 with
  | [], hd, hz, hs, h, hn, k0, k1, k2 =>
   have f := k0 rfl
   rw [rat_0]
   refine ⟨op_least (fun c => by omega), fun k hk => ?_⟩
   obtain ⟨k, rfl⟩ : ∃ q, k = q + 1 + 1 + 1 + 1 := ⟨k - 4, by omega⟩
   show impl_Expr_rat.f (k + 1 + 1 + 1 + 1) f0 f1 f2 [] = _ ∧ spec_l31Rat.f (k + 1 + 1 + 1 + 1) f0 f1 f2 [] = _
   rw [impl_Expr_rat.f, spec_l31Rat.f, rat_end (by simp)]
   refine ⟨rat_op (s := (0, 0)) (t := (0, 0)) bd00 bd00 hd.2 (by omega), ?_⟩
   have hfine := hd.2
   unfold fineM at hfine
   rcases f with f | f
   ·rw [if_pos f] at hfine
    rw [if_pos f, (least_is (by omega) (by omega) (by omega) (by omega) (by omega)).2]
    unfold ratOp
    rw [if_pos f]
    rfl
   ·rw [if_neg (by omega), if_neg (by omega), if_pos f, op_34 (.inr f)]
  | [x], hd, hz, hs, h, hn, k0, k1, k2 =>
   have f := k1 rfl
   rw [nodesL, nodesL] at h ⊢
   rw [sizeL, sizeL] at hs
   have sx := sizeM_bd x
   obtain ⟨q, ix⟩ := ih x (by omega) (by omega)
   rw [rat_1]
   refine ⟨?_, fun k hk => ?_⟩
   ·split
    ·rename_i c; exact op_least (fun _ => q.num c)
    ·exact .inr rfl
   obtain ⟨k, rfl⟩ : ∃ q, k = q + 1 + 1 + 1 + 1 := ⟨k - 4, by omega⟩
   show impl_Expr_rat.f (k + 1 + 1 + 1 + 1) f0 f1 f2 [x] = _ ∧ spec_l31Rat.f (k + 1 + 1 + 1 + 1) f0 f1 f2 [x] = _
   obtain ⟨i1, -⟩ := ix (k + 1 + 1) (by omega)
   obtain ⟨-, i2⟩ := ix (k + 1 + 1 + 1) (by omega)
   have r0 : rd_T25 [x] 0 = x := rfl
   rw [impl_Expr_rat.f, spec_l31Rat.f, rat_step0 (x := x) (by simp) rfl i1, if_neg (show ¬ f0 = 1 by omega), if_neg (show ¬ f0 = 4 by omega), r0, i2]
   simp only [Option.bind_some]
   by_cases c : (ratM x).2.2 = true
   ·rw [if_pos c, if_pos c, rat_end (by simp)]
    refine ⟨rat_op (s := ((ratM x).1, (ratM x).2.1)) (t := (0, 0)) (q.bd c) bd00 hd.2 (by omega), ?_⟩
    rcases f with f | f
    ·have b := q.bd c
     obtain ⟨⟨b1, b2⟩, -⟩ := b
     dsimp only at b1 b2
     rw [if_neg (by omega), if_pos (show 0 < (([x] : List S25).length : Int) by simp), if_pos c, spec_l31Rat.j0, if_pos (by rw [f]; rfl), w64 (x := -(ratM x).1) (by omega) (by omega), c]
     unfold ratOp
     rw [if_neg (by omega), if_pos f]
    ·rw [if_pos f, op_34 (.inl f)]
   ·rw [if_neg c, if_neg c]
    refine ⟨rfl, ?_⟩
    rcases f with f | f
    ·rw [if_neg (by omega), if_pos (show 0 < (([x] : List S25).length : Int) by simp), if_neg c, spec_l31Rat.j0, if_pos rfl, q.none c]
     exact w_neg0
    ·rw [if_pos f]
  | [x, y], hd, hz, hs, h, hn, k0, k1, k2 =>
   have f := k2 rfl
   rw [nodesL, nodesL, nodesL] at h ⊢
   rw [sizeL, sizeL, sizeL] at hs
   have sx := sizeM_bd x
   have sy := sizeM_bd y
   have px := nodes_pos x
   have py := nodes_pos y
   obtain ⟨q, ix⟩ := ih x (by omega) (by omega)
   obtain ⟨p, iy⟩ := ih y (by omega) (by omega)
   rw [rat_2]
   refine ⟨?_, fun k hk => ?_⟩
   ·split
    ·split
     ·exact op_least (fun c => by omega)
     ·exact .inr rfl
    ·exact .inr rfl
   obtain ⟨k, rfl⟩ : ∃ q, k = q + 1 + 1 + 1 + 1 := ⟨k - 4, by omega⟩
   show impl_Expr_rat.f (k + 1 + 1 + 1 + 1) f0 f1 f2 [x, y] = _ ∧ spec_l31Rat.f (k + 1 + 1 + 1 + 1) f0 f1 f2 [x, y] = _
   obtain ⟨i1, -⟩ := ix (k + 1 + 1) (by omega)
   obtain ⟨-, i2⟩ := ix (k + 1 + 1 + 1) (by omega)
   obtain ⟨j1, -⟩ := iy (k + 1) (by omega)
   obtain ⟨-, j2⟩ := iy (k + 1 + 1) (by omega)
   have r0 : rd_T25 [x, y] 0 = x := rfl
   have r1 : rd_T25 [x, y] 1 = y := rfl
   have b2 : (f0 == 2) = false := by simp; omega
   rw [impl_Expr_rat.f, spec_l31Rat.f, rat_step0 (x := x) (by simp) rfl i1, if_neg (show ¬ f0 = 1 by omega), if_neg (show ¬ f0 = 3 by omega), if_neg (show ¬ f0 = 4 by omega), if_pos (show 0 < (([x, y] : List S25).length : Int) by simp), r0, i2]
   simp only [Option.bind_some]
   by_cases c : (ratM x).2.2 = true
   ·rw [if_pos c, if_pos c, if_pos c, rat_step1 (x := y) (by simp) rfl j1, spec_l31Rat.j0, b2, if_neg (show ¬ (false = true) by decide), if_pos (show 1 < (([x, y] : List S25).length : Int) by simp), r1, j2]
    simp only [Option.bind_some]
    by_cases d : (ratM y).2.2 = true
    ·rw [if_pos d, if_pos d, if_pos d, rat_end (by simp)]
     have tw := srat_two (f0 := f0) (f1 := f1) (f2 := f2) (q.bd c) (p.bd d) f (k := k + 1 + 1) (by omega)
     dsimp only at tw
     rw [tw]
     exact ⟨rat_op (s := ((ratM x).1, (ratM x).2.1)) (t := ((ratM y).1, (ratM y).2.1)) (q.bd c) (p.bd d) hd.2 (by omega), rfl⟩
    ·rw [if_neg d, if_neg d, if_neg d]
     exact ⟨rfl, rfl⟩
   ·rw [if_neg c, if_neg c, if_neg c, spec_l31Rat.j0, if_pos rfl, q.none c]
    exact ⟨rfl, w_neg0⟩
  | _ :: _ :: _ :: _, _, _, _, _, hn, _, _, _ => simp at hn <;> omega
def ratR (e : S25) : Int × Int × Bool := if sizeM e ≤ 15 then ratM e else (0, 0, false)
theorem ratR_ok (e : S25) : LeastQ (ratR e) := by
 unfold ratR
 split
 ·rename_i c; exact (rats_is (nodes e) e (Nat.le_refl _) c).1
 ·exact .inr rfl
theorem ExprRat_is {e : S25} (hN : (nodes e : Int) ≤ 1099511627776) {k : Nat} (hk : 20 * nodes e + 500 ≤ k) : impl_ExprRat.f k e.f0 e.f1 e.f2 e.f3 = some (ratR e) ∧ spec_ExprRat.f k e.f0 e.f1 e.f2 e.f3 = some (ratR e) := by
 unfold impl_ExprRat.f spec_ExprRat.f ratR
 rw [(ExprOk_is hN (by omega)).1, (ExprOk_is hN (by omega)).2]
 simp only [Option.bind_some]
 by_cases c : sizeM e ≤ 15
 ·have n := ok_few c
  obtain ⟨q, r⟩ := rats_is 15 e n c
  obtain ⟨a, b⟩ := r k (by omega)
  rw [decide_eq_true c, if_pos rfl, if_pos c, if_pos rfl, a, b]
  simp only [Option.bind_some]
  by_cases d : (ratM e).2.2 = true
  ·rw [if_pos d]
   exact ⟨by first | rfl | trivial, by first | (rw [← d]; done) | (rw [← d]; rfl) | simp [← d]⟩
  ·rw [if_neg d, q.none d]
   exact ⟨by first | rfl | trivial, by first | rfl | trivial⟩
 ·rw [decide_eq_false c, if_neg c]
  exact ⟨by first | rfl | trivial, by first | rfl | trivial⟩

end Go.Proofs.Ytlodpfddimeffaa.M
