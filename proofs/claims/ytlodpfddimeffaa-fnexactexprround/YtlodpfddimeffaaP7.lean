import Derived.Test.YtlodpfddimeffaaP6
import Derived.Test.YtlodpfddimeffaaMd
import Derived.Test.YtlodpfddimeffaaMn
import Derived.Test.YtlodpfddimeffaaNj
namespace Go.Proofs.Ytlodpfddimeffaa.M
open Go.RowKit Go.Proofs.YtlodpfddimeffaaW.PrintWords Go.Proofs.YtlodpfddimeffaaW.PrintLast Go.Proofs.YtlodpfddimeffaaW.PrintMore
attribute [local go_sem] max2_int min2_int max_two min_two max_three min_three max_four min_four
attribute [local go_sem high] eqA31
attribute [local go_sem] fld31_0 fld31_1 fld25_0 fld25_1 fld25_2 fld25_3
set_option linter.unusedVariables false
set_option linter.unusedSimpArgs false
/-! ### numbers rounded -/
def evenM (a b : Int) : Int := if a - a / b * b > b - (a - a / b * b) then a / b + 1 else if a - a / b * b = b - (a - a / b * b) then (if Int.tmod (a / b) 2 = 0 then a / b else a / b + 1) else a / b
def roundM (a b way : Int) : Int := if way = 2 then upd a b else if way = 3 then Int.tdiv a b else if way = 4 then evenM a b else a / b
theorem div_rest {a b : Int} (hb : 0 < b) : 0 ≤ a - a / b * b ∧ a - a / b * b < b := by
 have e := Int.mul_ediv_add_emod a b
 have e2 : b * (a / b) = a / b * b := Int.mul_comm _ _
 have r0 := Int.emod_nonneg a (show b ≠ 0 by omega)
 have r1 := Int.emod_lt_of_pos a hb
 omega
theorem NumRound_is {a b way : Int} (ha : -1152921504606846976 ≤ a) (ha2 : a ≤ 1152921504606846976) (hb : 1 ≤ b) (hb2 : b ≤ 1152921504606846976) (hw : 1 ≤ way) (hw2 : way ≤ 4) :
  impl_NumRound.f a b way = some (roundM a b way, true) := by
 unfold impl_NumRound.f impl_divides.f
 simp only [in_is, Option.bind_some, ha, ha2, hb, hb2, hw, hw2, and_self, decide_true, if_true]
 unfold impl_round.f
 have d := div_bd (a := a) (b := b) (A := 1152921504606846976) (by omega) ha ha2
 have t := div_rest (a := a) (b := b) (by omega)
 have p : -2400000000000000000 ≤ a / b * b ∧ a / b * b ≤ 1152921504606846976 := by omega
 have td : -1152921504606846976 ≤ Int.tdiv a b ∧ Int.tdiv a b ≤ 1152921504606846976 := by
  have x := tdiv_down (a := a) (b := b) (by omega)
  by_cases c : Int.tmod a b < 0
  ·have := x.1 c
   rcases Int.lt_or_le (1152921504606846975) (a / b) with g | g
   ·have e : a / b = 1152921504606846976 := by omega
    have : b = 1 := by
     rcases Int.lt_or_le 1 b with h | h
     ·exfalso
      have : 2 * (a / b) ≤ b * (a / b) := Int.mul_le_mul_of_nonneg_right (by omega) (by omega)
      rw [Int.mul_comm b] at this; omega
     ·omega
    subst this
    simp at c
   ·omega
  ·have := x.2 c; omega
 rw [down_is (by omega) (by omega) (by omega), up_is (by omega) (by omega) (by omega)]
 simp only [Option.bind_some]
 rw [w64 (x := a / b * b) (by omega) (by omega), w64 (x := a - a / b * b) (by omega) (by omega), w64 (x := b - (a - a / b * b)) (by omega) (by omega),
  w64 (x := a / b + 1) (by omega) (by omega), w64 (x := Int.tdiv a b) (by omega) (by omega), if_neg (show ¬ b = 0 by omega)]
 unfold roundM evenM
 by_cases c2 : way = 2
 ·simp [c2]
 by_cases c3 : way = 3
 ·simp [c3]
 by_cases c4 : way = 4
 ·subst c4
  simp only [c2, c3, if_false, if_true]
  split
  ·rfl
  split
  ·split <;> rfl
  ·rfl
 ·simp [c2, c3, c4]
/-! ### rounding: the reference's -/
theorem tdiv_is (a : Int) {b : Int} (hb : 0 < b) : Int.tdiv a b = if a < 0 then upd a b else a / b := by
 by_cases h : a < 0
 ·rw [if_pos h]
  obtain ⟨c, rfl⟩ : ∃ c, a = -c := ⟨-a, by omega⟩
  rw [Int.neg_tdiv, Int.tdiv_eq_ediv_of_nonneg (show 0 ≤ c by omega)]
  unfold upd
  rw [Int.neg_neg]
 ·rw [if_neg h]
  exact Int.tdiv_eq_ediv_of_nonneg (by omega)
theorem sround_is {a b way : Int} (ha : -1152921504606846976 ≤ a) (ha2 : a ≤ 1152921504606846976) (hb : 1 ≤ b) (hb2 : b ≤ 1152921504606846976) (hw : 1 ≤ way) (hw2 : way ≤ 4) :
  spec_l1Round.f a b way = some (roundM a b way) := by
 have d := div_bd (a := a) (b := b) (A := 1152921504606846976) (by omega) ha ha2
 have t := div_rest (a := a) (b := b) (by omega)
 unfold spec_l1Round.f spec_l1Even.f roundM
 rw [sdown_is (by omega) (by omega) (by omega) (by omega), sup_is (by omega) (by omega) (by omega) (by omega)]
 simp only [Option.bind_some]
 rw [w64 (x := a / b * b) (by omega) (by omega), w64 (x := a - a / b * b) (by omega) (by omega), w64 (x := b - (a - a / b * b)) (by omega) (by omega), w64 (x := a / b + 1) (by omega) (by omega)]
 by_cases c1 : way = 1
 ·subst c1; rfl
 by_cases c2 : way = 2
 ·subst c2; rfl
 by_cases c3 : way = 3
 ·subst c3
  rw [tdiv_is a (by omega)]
  by_cases n : a < 0
  ·simp [n]
  ·simp [n]
 have c4 : way = 4 := by omega
 subst c4
 rw [if_neg (show ¬ (4 : Int) = 1 by decide), if_neg (show ¬ (4 : Int) = 2 by decide), if_neg (show ¬ (4 : Int) = 3 by decide), if_neg (show ¬ (4 : Int) = 2 by decide), if_neg (show ¬ (4 : Int) = 3 by decide), if_pos rfl]
 unfold evenM
 split
 ·rfl
 split
 ·split <;> rfl
 ·rfl
/-! ### surely rounded: both tell the same -/
def sureR (f : Int × Int) (parts way : Int) : Int × Bool := if (1 ≤ parts ∧ parts ≤ 1000000000) ∧ (1 ≤ way ∧ way ≤ 4) then (if roundM f.1 parts way = roundM f.2 parts way then (roundM f.1 parts way, true) else (0, false)) else (0, false)
theorem numBad {a b way : Int} (w : ¬ (1 ≤ way ∧ way ≤ 4)) : impl_NumRound.f a b way = some (0, false) := by
 unfold impl_NumRound.f impl_divides.f
 simp only [in_is, Option.bind_some]
 have e : decide (1 ≤ way ∧ way ≤ 4) = false := decide_eq_false w
 simp only [e]
 by_cases c : -1152921504606846976 ≤ a ∧ a ≤ 1152921504606846976 <;> by_cases d : 1 ≤ b ∧ b ≤ 1152921504606846976 <;> simp [c, d]
theorem SureRound_is {f : Int × Int} {parts way : Int} (h : OkM f) {k : Nat} (hk : 1 ≤ k) :
  impl_SureRound.f f.1 f.2 parts way = some (sureR f parts way) ∧ spec_SureRound.f k f.1 f.2 parts way = some (sureR f parts way) := by
 obtain ⟨k, rfl⟩ : ∃ q, k = q + 1 := ⟨k - 1, by omega⟩
 obtain ⟨h0, h1, h2⟩ := h
 unfold impl_SureRound.f spec_SureRound.f sureR impl_same.f
 rw [(SpanOk_is f.1 f.2).1, (SpanOk_is f.1 f.2).2]
 have a : decide (-1073000000 ≤ f.1 ∧ f.1 ≤ f.2 ∧ f.2 ≤ 1073000000) = true := decide_eq_true ⟨h0, h1, h2⟩
 simp only [in_is, sin_is, Option.bind_some, a, if_true]
 by_cases p : 1 ≤ parts ∧ parts ≤ 1000000000
 ·by_cases w : 1 ≤ way ∧ way ≤ 4
  ·simp only [p, w, and_self, decide_true, if_true, Bool.not_true]
   rw [spec_SureRound.j0, if_neg (show ¬ (false = true) by decide), sround_is (by omega) (by omega) (by omega) (by omega) w.1 w.2, sround_is (by omega) (by omega) (by omega) (by omega) w.1 w.2, NumRound_is (by omega) (by omega) (by omega) (by omega) w.1 w.2, NumRound_is (by omega) (by omega) (by omega) (by omega) w.1 w.2]
   simp only [Option.bind_some, if_true]
   split <;> exact ⟨rfl, rfl⟩
  ·simp only [p, w, and_self, and_false, decide_true, decide_false, if_true, if_false, Bool.not_false, Bool.false_eq_true]
   rw [spec_SureRound.j0, if_pos rfl, numBad w, numBad w]
   exact ⟨rfl, rfl⟩
 ·simp only [p, false_and, decide_false, if_false, Bool.false_eq_true]
  rw [spec_SureRound.j0, if_pos rfl]
  exact ⟨by first | rfl | trivial, by first | rfl | trivial⟩
def roundR (e : S25) (parts way : Int) : Int × Bool := if (exprR e).2.2 = true then sureR ((exprR e).1, (exprR e).2.1) parts way else (0, false)
theorem ExprRound_is {e : S25} (hN : (nodes e : Int) ≤ 1099511627776) (parts way : Int) {k : Nat} (hk : 20 * nodes e + 500 ≤ k) : impl_ExprRound.f k e.f0 e.f1 e.f2 e.f3 parts way = some (roundR e parts way) ∧ spec_ExprRound.f k e.f0 e.f1 e.f2 e.f3 parts way = some (roundR e parts way) := by
 unfold impl_ExprRound.f spec_ExprRound.f roundR
 rw [(ExprSpan_is hN hk).1, (ExprSpan_is hN hk).2]
 simp only [Option.bind_some]
 by_cases c : (exprR e).2.2 = true
 ·have o := (exprR_ok e).pair c
  have s := SureRound_is (parts := parts) (way := way) o (k := k) (by omega)
  dsimp only at s
  rw [if_pos c, if_pos c, if_pos c, s.1, s.2]
  exact ⟨rfl, rfl⟩
 ·rw [if_neg c, if_neg c, if_neg c]
  exact ⟨rfl, rfl⟩

end Go.Proofs.Ytlodpfddimeffaa.M
