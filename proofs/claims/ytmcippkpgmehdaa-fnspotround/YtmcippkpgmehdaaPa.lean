import Derived.Test.YtmcippkpgmehdaaP7
import Derived.Test.YtmcippkpgmehdaaMd
import Derived.Test.YtmcippkpgmehdaaMm
import Derived.Test.YtmcippkpgmehdaaNl
namespace Go.Proofs.Ytmcippkpgmehdaa.M
open Go.RowKit Go.Proofs.YtmcippkpgmehdaaW.PrintWords Go.Proofs.YtmcippkpgmehdaaW.PrintLast Go.Proofs.YtmcippkpgmehdaaW.PrintMore
attribute [local go_sem] max2_int min2_int max_two min_two max_three min_three max_four min_four
attribute [local go_sem high] eqA42 eqA29 eqA24
attribute [local go_sem] fld42_0 fld42_1 fld29_0 fld29_1 fld24_0 fld24_1 fld38_0 fld38_1 fld88_0 fld88_1 fld88_2 fld88_3 fld88_4
set_option linter.unusedVariables false
set_option linter.unusedSimpArgs false
/-! ### numbers rounded -/
def evenM (a b : Int) : Int := if a - a / b * b > b - (a - a / b * b) then a / b + 1 else if a - a / b * b = b - (a - a / b * b) then (if Int.tmod (a / b) 2 = 0 then a / b else a / b + 1) else a / b
def roundM (a b way : Int) : Int := if way = 2 then upd a b else if way = 3 then Int.tdiv a b else if way = 4 then evenM a b else a / b
theorem div_rest {a b : Int} (hb : 0 < b) : 0 ≤ a - a / b * b ∧ a - a / b * b < b := by
 have e := Int.mul_ediv_add_emod a b
 have e2 : b * (a / b) = a / b * b := Int.mul_comm _ _
 have r0 := Int.emod_nonneg a (show b ≠ 0 by omega)
 have r1 := Int.emod_lt_of_pos a hb
 omega
theorem NumRound_is {a b way : Int} (ha : -1152921504606846976 ≤ a) (ha2 : a ≤ 1152921504606846976) (hb : 1 ≤ b) (hb2 : b ≤ 1152921504606846976) (hw : 1 ≤ way) (hw2 : way ≤ 4) :
  impl_NumRound.f a b way = some (roundM a b way, true) := by
 unfold impl_NumRound.f impl_divides.f
 simp only [in_is, Option.bind_some, ha, ha2, hb, hb2, hw, hw2, and_self, decide_true, if_true]
 unfold impl_round.f
 have d := div_bd (a := a) (b := b) (A := 1152921504606846976) (by omega) ha ha2
 have t := div_rest (a := a) (b := b) (by omega)
 have p : -2400000000000000000 ≤ a / b * b ∧ a / b * b ≤ 1152921504606846976 := by omega
 have td : -1152921504606846976 ≤ Int.tdiv a b ∧ Int.tdiv a b ≤ 1152921504606846976 := by
  have x := tdiv_down (a := a) (b := b) (by omega)
  by_cases c : Int.tmod a b < 0
  ·have := x.1 c
   rcases Int.lt_or_le (1152921504606846975) (a / b) with g | g
   ·have e : a / b = 1152921504606846976 := by omega
    have : b = 1 := by
     rcases Int.lt_or_le 1 b with h | h
     ·exfalso
      have : 2 * (a / b) ≤ b * (a / b) := Int.mul_le_mul_of_nonneg_right (by omega) (by omega)
      rw [Int.mul_comm b] at this; omega
     ·omega
    subst this
    simp at c
   ·omega
  ·have := x.2 c; omega
 rw [down_is (by omega) (by omega) (by omega), up_is (by omega) (by omega) (by omega)]
 simp only [Option.bind_some]
 rw [w64 (x := a / b * b) (by omega) (by omega), w64 (x := a - a / b * b) (by omega) (by omega), w64 (x := b - (a - a / b * b)) (by omega) (by omega),
  w64 (x := a / b + 1) (by omega) (by omega), w64 (x := Int.tdiv a b) (by omega) (by omega), if_neg (show ¬ b = 0 by omega)]
 unfold roundM evenM
 by_cases c2 : way = 2
 ·simp [c2]
 by_cases c3 : way = 3
 ·simp [c3]
 by_cases c4 : way = 4
 ·subst c4
  simp only [c2, c3, if_false, if_true]
  split
  ·rfl
  split
  ·split <;> rfl
  ·rfl
 ·simp [c2, c3, c4]
/-! ### rounded fans: both tell the same -/
theorem tdiv_is (a : Int) {b : Int} (hb : 0 < b) : Int.tdiv a b = if a < 0 then upd a b else a / b := by
 by_cases h : a < 0
 ·rw [if_pos h]
  obtain ⟨c, rfl⟩ : ∃ c, a = -c := ⟨-a, by omega⟩
  rw [Int.neg_tdiv, Int.tdiv_eq_ediv_of_nonneg (show 0 ≤ c by omega)]
  unfold upd
  rw [Int.neg_neg]
 ·rw [if_neg h]
  exact Int.tdiv_eq_ediv_of_nonneg (by omega)
theorem sround_is {a b way : Int} (ha : -1152921504606846976 ≤ a) (ha2 : a ≤ 1152921504606846976) (hb : 1 ≤ b) (hb2 : b ≤ 1152921504606846976) (hw : 1 ≤ way) (hw2 : way ≤ 4) :
  spec_l1Round.f a b way = some (roundM a b way) := by
 have d := div_bd (a := a) (b := b) (A := 1152921504606846976) (by omega) ha ha2
 have t := div_rest (a := a) (b := b) (by omega)
 unfold spec_l1Round.f spec_l1Even.f roundM
 rw [sdown_is (by omega) (by omega) (by omega) (by omega), sup_is (by omega) (by omega) (by omega) (by omega)]
 simp only [Option.bind_some]
 rw [w64 (x := a / b * b) (by omega) (by omega), w64 (x := a - a / b * b) (by omega) (by omega), w64 (x := b - (a - a / b * b)) (by omega) (by omega), w64 (x := a / b + 1) (by omega) (by omega)]
 by_cases c1 : way = 1
 ·subst c1; rfl
 by_cases c2 : way = 2
 ·subst c2; rfl
 by_cases c3 : way = 3
 ·subst c3
  rw [tdiv_is a (by omega)]
  by_cases n : a < 0
  ·simp [n]
  ·simp [n]
 have c4 : way = 4 := by omega
 subst c4
 rw [if_neg (show ¬ (4 : Int) = 1 by decide), if_neg (show ¬ (4 : Int) = 2 by decide), if_neg (show ¬ (4 : Int) = 3 by decide), if_neg (show ¬ (4 : Int) = 2 by decide), if_neg (show ¬ (4 : Int) = 3 by decide), if_pos rfl]
 unfold evenM
 split
 ·rfl
 split
 ·split <;> rfl
 ·rfl
def fanR (f : Int × Int) (parts way : Int) : Int × Bool := if (1 ≤ parts ∧ parts ≤ 129600000) ∧ (1 ≤ way ∧ way ≤ 4) then (if roundM f.1 parts way = roundM f.2 parts way then (roundM f.1 parts way, true) else (0, false)) else (0, false)
theorem FanRound_is {f : Int × Int} {parts way : Int} (h0 : -129600000 ≤ f.1) (h1 : f.1 ≤ f.2) (h2 : f.2 ≤ 129600000) {k : Nat} (hk : 1 ≤ k) :
  impl_FanRound.f f.1 f.2 parts way = some (fanR f parts way) ∧ spec_FanRound.f k f.1 f.2 parts way = some (fanR f parts way) := by
 obtain ⟨k, rfl⟩ : ∃ q, k = q + 1 := ⟨k - 1, by omega⟩
 unfold impl_FanRound.f spec_FanRound.f impl_fanOk.f impl_aTurn.f spec_l13Ok.f fanR impl_same.f
 have a : decide (-129600000 ≤ f.1 ∧ f.1 ≤ 129600000) = true := decide_eq_true ⟨h0, by omega⟩
 have b : decide (-129600000 ≤ f.2 ∧ f.2 ≤ 129600000) = true := decide_eq_true ⟨by omega, h2⟩
 have b2 : decide (f.1 ≤ f.2 ∧ f.2 ≤ 129600000) = true := decide_eq_true ⟨h1, h2⟩
 have c : decide (f.1 ≤ f.2) = true := decide_eq_true h1
 simp only [in_is, sin_is, Option.bind_some, a, b, b2, c, if_true]
 by_cases p : 1 ≤ parts ∧ parts ≤ 129600000
 ·by_cases w : 1 ≤ way ∧ way ≤ 4
  ·simp only [p, w, and_self, decide_true, if_true, Bool.not_true]
   rw [spec_FanRound.j0, if_neg (show ¬ (false = true) by decide), sround_is (by omega) (by omega) (by omega) (by omega) w.1 w.2, sround_is (by omega) (by omega) (by omega) (by omega) w.1 w.2, NumRound_is (by omega) (by omega) (by omega) (by omega) w.1 w.2, NumRound_is (by omega) (by omega) (by omega) (by omega) w.1 w.2]
   simp only [Option.bind_some, if_true]
   split <;> exact ⟨rfl, rfl⟩
  ·simp only [p, w, and_self, and_false, decide_true, decide_false, if_true, if_false, Bool.not_false, Bool.false_eq_true]
   rw [spec_FanRound.j0, if_pos rfl]
   have n : impl_NumRound.f f.1 parts way = some (0, false) ∧ impl_NumRound.f f.2 parts way = some (0, false) := by
    unfold impl_NumRound.f impl_divides.f
    simp only [in_is, Option.bind_some]
    have e (x : Int) : decide (1 ≤ way ∧ way ≤ 4) = false := decide_eq_false w
    constructor <;> (simp only [e 0]; split <;> simp)
   rw [n.1, n.2]
   exact ⟨rfl, rfl⟩
 ·simp only [p, false_and, decide_false, if_false, Bool.false_eq_true]
  rw [spec_FanRound.j0, if_pos rfl]
  exact ⟨by first | rfl | trivial, by first | rfl | trivial⟩
def spotR (pu pa qu qa parts way : Int) : Int × Bool := if (distR pu pa qu qa).2.2 = true then fanR (distOf (squareM pu pa qu qa)) parts way else (0, false)
theorem SpotRound_is (pu pa qu qa parts way : Int) {k : Nat} (hk : 260 ≤ k) : impl_SpotRound.f k pu pa qu qa parts way = some (spotR pu pa qu qa parts way) ∧ spec_SpotRound.f k pu pa qu qa parts way = some (spotR pu pa qu qa parts way) := by
 unfold impl_SpotRound.f spec_SpotRound.f spotR
 rw [(SpotDist_is pu pa qu qa (by omega)).1, (SpotDist_is pu pa qu qa (by omega)).2]
 simp only [Option.bind_some]
 by_cases h : (Up pu ∧ Ar pa) ∧ (Up qu ∧ Ar qa)
 ·have e : distR pu pa qu qa = ((distOf (squareM pu pa qu qa)).1, (distOf (squareM pu pa qu qa)).2, true) := if_pos h
  obtain ⟨d1, d2, d3⟩ := dist_ends (square_parts h.1.1 h.2.1 pa qa).2.2
  rw [e]
  simp only [if_true]
  rw [(FanRound_is (by omega) d2 (by omega) (k := k) (by omega)).1, (FanRound_is (by omega) d2 (by omega) (k := k) (by omega)).2]
  exact ⟨rfl, rfl⟩
 ·have e : distR pu pa qu qa = (0, 0, false) := if_neg h
  rw [e]
  exact ⟨rfl, rfl⟩

end Go.Proofs.Ytmcippkpgmehdaa.M
