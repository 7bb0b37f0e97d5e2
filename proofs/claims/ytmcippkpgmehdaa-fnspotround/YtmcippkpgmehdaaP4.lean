import Derived.Test.YtmcippkpgmehdaaP3
import Derived.Test.YtmcippkpgmehdaaMf
import Derived.Test.YtmcippkpgmehdaaNe
namespace Go.Proofs.Ytmcippkpgmehdaa.M
open Go.RowKit Go.Proofs.YtmcippkpgmehdaaW.PrintWords Go.Proofs.YtmcippkpgmehdaaW.PrintLast Go.Proofs.YtmcippkpgmehdaaW.PrintMore
attribute [local go_sem] max2_int min2_int max_two min_two max_three min_three max_four min_four
attribute [local go_sem high] eqA42 eqA29 eqA24
attribute [local go_sem] fld42_0 fld42_1 fld29_0 fld29_1 fld24_0 fld24_1 fld38_0 fld38_1 fld88_0 fld88_1 fld88_2 fld88_3 fld88_4
set_option linter.unusedVariables false
set_option linter.unusedSimpArgs false
/-- Halving by a question, in whole numbers. -/
def halveM (p : Int → Bool) : Nat → Int → Int → Int × Int
 | 0, lo, hi => (lo, hi)
 | k + 1, lo, hi => if hi - lo > 1 then (if p ((lo + hi) / 2) = true then halveM p k ((lo + hi) / 2) hi else halveM p k lo ((lo + hi) / 2)) else (lo, hi)
theorem halveM_tells (p : Int → Bool) (d : Nat) : ∀ (k : Nat) (lo hi : Int), lo < hi → hi - lo ≤ 2 ^ d → d < k →
  lo ≤ (halveM p k lo hi).1 ∧ (halveM p k lo hi).2 = (halveM p k lo hi).1 + 1 ∧ (halveM p k lo hi).2 ≤ hi ∧
  ((halveM p k lo hi).1 = lo ∨ p (halveM p k lo hi).1 = true) ∧ ((halveM p k lo hi).2 = hi ∨ p (halveM p k lo hi).2 = false) := by
 induction d with
 | zero =>
  intro k lo hi h1 h2 h3
  obtain ⟨k, rfl⟩ : ∃ q, k = q + 1 := ⟨k - 1, by omega⟩
  rw [halveM, if_neg (by omega)]
  exact ⟨by omega, by simp; omega, by omega, .inl rfl, .inl rfl⟩
 | succ d ih =>
  intro k lo hi h1 h2 h3
  obtain ⟨k, rfl⟩ : ∃ q, k = q + 1 := ⟨k - 1, by omega⟩
  have hp : (2 : Int) ^ (d + 1) = 2 * 2 ^ d := by rw [Int.pow_succ]; omega
  rw [halveM]
  by_cases c : hi - lo > 1
  ·rw [if_pos c]
   generalize hm : (lo + hi) / 2 = m
   cases hpm : p m with
   | true =>
    rw [if_pos rfl]
    obtain ⟨b1, b2, b3, b4, b5⟩ := ih k m hi (by omega) (by omega) (by omega)
    refine ⟨by omega, b2, b3, ?_, b5⟩
    rcases b4 with h | h
    ·right; rw [h, hpm]
    ·exact .inr h
   | false =>
    rw [if_neg (by decide)]
    obtain ⟨b1, b2, b3, b4, b5⟩ := ih k lo m (by omega) (by omega) (by omega)
    refine ⟨b1, b2, by omega, b4, ?_⟩
    rcases b5 with h | h
    ·right; rw [h, hpm]
    ·exact .inr h
  ·rw [if_neg c]
   exact ⟨by omega, by simp; omega, by omega, .inl rfl, .inl rfl⟩
/-- Of two questions of which one holds where the other one does, and what holds goes down: the ends. -/
def backP (num : Int) (a : Int) : Bool := decide ((sineM (2 * a)).2 ≤ num)
def backQ (num : Int) (a : Int) : Bool := decide ((sineM (2 * a)).1 < num)
def backM (num : Int) : Int × Int := ((halveM (backP num) 40 (-32400000) 32400000).1, (halveM (backQ num) 40 (-32400000) 32400000).2)
theorem back_tells {num : Int} (h1 : -1000000000 ≤ num) (h2 : num ≤ 1000000000) :
  -32400000 ≤ (backM num).1 ∧ (backM num).1 ≤ (backM num).2 ∧ (backM num).2 ≤ 32400000 ∧ (sineM (2 * (backM num).1)).2 ≤ num ∧ num ≤ (sineM (2 * (backM num).2)).1 := by
 obtain ⟨a1, a2, a3, a4, -⟩ := halveM_tells (backP num) 30 40 (-32400000) 32400000 (by omega) (by omega) (by omega)
 obtain ⟨b1, b2, b3, -, b5⟩ := halveM_tells (backQ num) 30 40 (-32400000) 32400000 (by omega) (by omega) (by omega)
 have lo : (sineM (2 * (backM num).1)).2 ≤ num := by
  rcases a4 with h | h
  ·have e : (backM num).1 = -32400000 := h
   rw [e]
   have s : (sineM (2 * -32400000)).2 = -1000000000 := by decide +kernel
   omega
  ·exact of_decide_eq_true h
 have hi : num ≤ (sineM (2 * (backM num).2)).1 := by
  rcases b5 with h | h
  ·have e : (backM num).2 = 32400000 := h
   rw [e]
   have s : (sineM (2 * 32400000)).1 = 1000000000 := by decide +kernel
   omega
  ·have := of_decide_eq_false h
   have e : (backM num).2 = (halveM (backQ num) 40 (-32400000) 32400000).2 := rfl
   rw [e]; omega
 have c1 : -32400000 ≤ (backM num).1 := a1
 have c2 : (backM num).2 ≤ 32400000 := b3
 have c3 : -32400000 ≤ (backM num).2 := by have e : (backM num).2 = (halveM (backQ num) 40 (-32400000) 32400000).2 := rfl; omega
 have c4 : (backM num).1 ≤ 32400000 := by have e : (backM num).1 = (halveM (backP num) 40 (-32400000) 32400000).1 := rfl; omega
 refine ⟨c1, ?_, c2, lo, hi⟩
 rcases Int.lt_or_le (backM num).2 (backM num).1 with g | g
 ·have := sine_grow (a := 2 * (backM num).2) (b := 2 * (backM num).1) (by omega) (by omega) (by omega)
  omega
 ·exact g
/-- Where one angle's upper end is not more than what another one's lower end is not less than, that one is not less. -/
theorem sine_order {a b n : Int} (ha : -32400000 ≤ a) (ha2 : a ≤ 32400000) (hb : -32400000 ≤ b) (h1 : (sineM (2 * a)).2 ≤ n) (h2 : n ≤ (sineM (2 * b)).1) : a ≤ b := by
 rcases Int.lt_or_le b a with g | g
 ·have := sine_grow (a := 2 * b) (b := 2 * a) (by omega) (by omega) (by omega)
  omega
 ·exact g
theorem back_neg {num : Int} (h1 : -1000000000 ≤ num) (h2 : num ≤ 1000000000) : -(backM num).2 ≤ (backM (-num)).2 ∧ (backM (-num)).1 ≤ -(backM num).1 := by
 obtain ⟨a1, a2, a3, a4, a5⟩ := back_tells h1 h2
 obtain ⟨b1, b2, b3, b4, b5⟩ := back_tells (num := -num) (by omega) (by omega)
 have n1 := sine_neg (2 * (backM num).2)
 have n2 := sine_neg (2 * (backM num).1)
 have e1 : -(2 * (backM num).2) = 2 * -(backM num).2 := by omega
 have e2 : -(2 * (backM num).1) = 2 * -(backM num).1 := by omega
 rw [e1] at n1
 rw [e2] at n2
 constructor
 ·exact sine_order (n := -num) (by omega) (by omega) (by omega) (by rw [n1]; simp only [negM]; omega) b5
 ·exact sine_order (n := -num) (by omega) (by omega) (by omega) b4 (by rw [n2]; simp only [negM]; omega)
/-! ### cosines (the same lines stand in Way.lean) -/
def cosM (a : Int) : Int × Int := sineM (2 * a + 64800000)
theorem cos_swap (a : Int) : cosM (32400000 - a) = sineM (2 * a) ∧ sineM (2 * (32400000 - a)) = cosM a := by
 unfold cosM
 have r1 := sine_refl (2 * a)
 have r2 := sine_refl (2 * a + 64800000)
 have e1 : 129600000 - 2 * a = 2 * (32400000 - a) + 64800000 := by omega
 have e2 : 129600000 - (2 * a + 64800000) = 2 * (32400000 - a) := by omega
 rw [e1] at r1
 rw [e2] at r2
 exact ⟨r1, r2⟩
theorem cos_fall {a b : Int} (h0 : 0 ≤ a) (h : a < b) (h1 : b ≤ 32400000) : (cosM b).1 < (cosM a).2 := by
 rw [← (cos_swap b).2, ← (cos_swap a).2]
 exact sine_grow (by omega) (by omega) (by omega)
/-! the same lines stand in HalveLink.lean -/
theorem cosine_is {a : Int} {k : Nat} (hk : 100 ≤ k) (h1 : -10000000000000 ≤ a) (h2 : a ≤ 10000000000000) : impl_cosine.f k a = some (sineM (2 * (a + 32400000))) := by
 unfold impl_cosine.f
 rw [w64 (x := a + 32400000) (by omega) (by omega), w64 (x := 2 * (a + 32400000)) (by omega) (by omega), (sine_is (h := 2 * (a + 32400000)) (by omega) (by omega) (by omega)).1]
 rfl
/-! ### products of spans -/
def min4 (p q r s : Int) : Int := min (min p q) (min r s)
def max4 (p q r s : Int) : Int := max (max p q) (max r s)
def mulM (s t : Int × Int) : Int × Int := (min4 (s.1 * t.1) (s.1 * t.2) (s.2 * t.1) (s.2 * t.2) / 1000000000, upd (max4 (s.1 * t.1) (s.1 * t.2) (s.2 * t.1) (s.2 * t.2)) 1000000000)
def OkM (s : Int × Int) : Prop := -1073000000 ≤ s.1 ∧ s.1 ≤ s.2 ∧ s.2 ≤ 1073000000
theorem upd_mono {a b c : Int} (hc : 0 < c) (h : a ≤ b) : upd a c ≤ upd b c := by
 have := upd_ge (a := b) hc
 exact upd_le hc (by omega)
theorem dn_mono {a b c : Int} (hc : 0 < c) (h : a ≤ b) : a / c ≤ b / c := Int.ediv_le_ediv hc h
theorem dn_up {a b : Int} (hb : 0 < b) : a / b ≤ upd a b := by
 have h1 := dn_le (a := a) hb
 have h2 := upd_ge (a := a) hb
 have : a / b * b ≤ upd a b * b := by omega
 exact Int.le_of_mul_le_mul_right this hb
theorem mulM_ok (s t : Int × Int) : (mulM s t).1 ≤ (mulM s t).2 := by
 have h1 : (mulM s t).1 ≤ s.1 * t.1 / 1000000000 := dn_mono (by omega) (by unfold min4; omega)
 have h2 : upd (s.1 * t.1) 1000000000 ≤ (mulM s t).2 := upd_mono (by omega) (by unfold max4; omega)
 have h3 := dn_up (a := s.1 * t.1) (b := 1000000000) (by omega)
 omega
theorem mulM_bd {s t : Int × Int} {A B C : Int} (h1 : -A ≤ s.1) (h2 : s.1 ≤ A) (h3 : -A ≤ s.2) (h4 : s.2 ≤ A) (h5 : -B ≤ t.1) (h6 : t.1 ≤ B) (h7 : -B ≤ t.2) (h8 : t.2 ≤ B) (hC : A * B ≤ C * 1000000000) :
  -C ≤ (mulM s t).1 ∧ (mulM s t).1 ≤ C ∧ -C ≤ (mulM s t).2 ∧ (mulM s t).2 ≤ C := by
 have b1 := mul_bd h1 h2 h5 h6
 have b2 := mul_bd h1 h2 h7 h8
 have b3 := mul_bd h3 h4 h5 h6
 have b4 := mul_bd h3 h4 h7 h8
 have o := mulM_ok s t
 have lo : -C ≤ (mulM s t).1 := by
  show -C ≤ _ / _
  rw [Int.le_ediv_iff_mul_le (by omega)]
  unfold min4
  omega
 have hi : (mulM s t).2 ≤ C := upd_le (by omega) (by unfold max4; omega)
 omega
theorem mulM_comm (s t : Int × Int) : mulM s t = mulM t s := by
 unfold mulM
 rw [Int.mul_comm t.1 s.1, Int.mul_comm t.1 s.2, Int.mul_comm t.2 s.1, Int.mul_comm t.2 s.2]
 unfold min4 max4
 congr 2 <;> omega
theorem upd_neg (a b : Int) : upd (-a) b = -(a / b) := by unfold upd; rw [Int.neg_neg]
theorem dn_neg (a b : Int) : (-a) / b = -upd a b := by unfold upd; omega
theorem mulM_neg (s t : Int × Int) : mulM (negM s) t = negM (mulM s t) := by
 unfold mulM negM
 simp only [Int.neg_mul]
 have e1 : min4 (-(s.2 * t.1)) (-(s.2 * t.2)) (-(s.1 * t.1)) (-(s.1 * t.2)) = -max4 (s.1 * t.1) (s.1 * t.2) (s.2 * t.1) (s.2 * t.2) := by unfold min4 max4; omega
 have e2 : max4 (-(s.2 * t.1)) (-(s.2 * t.2)) (-(s.1 * t.1)) (-(s.1 * t.2)) = -min4 (s.1 * t.1) (s.1 * t.2) (s.2 * t.1) (s.2 * t.2) := by unfold min4 max4; omega
 rw [e1, e2, dn_neg, upd_neg]
/-! ### turned ways -/
def addM (s t : Int × Int) : Int × Int := (s.1 + t.1, s.2 + t.2)
def subM (s t : Int × Int) : Int × Int := (s.1 - t.2, s.2 - t.1)
def turnUp (u r a : Int) : Int × Int := addM (mulM (u, u) (cosM a)) (mulM (r, r) (sineM (2 * a)))
def turnRight (u r a : Int) : Int × Int := subM (mulM (r, r) (cosM a)) (mulM (u, u) (sineM (2 * a)))
theorem scaled_bd {n : Int} (h1 : -500000000 ≤ n) (h2 : n ≤ 500000000) (h : Int) : -500000000 ≤ (mulM (n, n) (sineM h)).1 ∧ (mulM (n, n) (sineM h)).1 ≤ 500000000 ∧ -500000000 ≤ (mulM (n, n) (sineM h)).2 ∧ (mulM (n, n) (sineM h)).2 ≤ 500000000 := by
 have s := sine_ends h
 exact mulM_bd (A := 500000000) (B := 1000000000) h1 h2 h1 h2 (by omega) (by omega) (by omega) (by omega) (by omega)
theorem turn_ok {u r : Int} (h1 : -500000000 ≤ u) (h2 : u ≤ 500000000) (h3 : -500000000 ≤ r) (h4 : r ≤ 500000000) (a : Int) :
  (-1000000000 ≤ (turnUp u r a).1 ∧ (turnUp u r a).1 ≤ (turnUp u r a).2 ∧ (turnUp u r a).2 ≤ 1000000000) ∧ (-1000000000 ≤ (turnRight u r a).1 ∧ (turnRight u r a).1 ≤ (turnRight u r a).2 ∧ (turnRight u r a).2 ≤ 1000000000) := by
 have b1 := scaled_bd h1 h2 (2 * a + 64800000)
 have b2 := scaled_bd h3 h4 (2 * a)
 have b3 := scaled_bd h3 h4 (2 * a + 64800000)
 have b4 := scaled_bd h1 h2 (2 * a)
 have o1 := mulM_ok (u, u) (sineM (2 * a + 64800000))
 have o2 := mulM_ok (r, r) (sineM (2 * a))
 have o3 := mulM_ok (r, r) (sineM (2 * a + 64800000))
 have o4 := mulM_ok (u, u) (sineM (2 * a))
 unfold turnUp turnRight addM subM cosM
 dsimp only
 omega
theorem turn_neg (u r a : Int) : turnUp (-u) (-r) a = negM (turnUp u r a) ∧ turnRight (-u) (-r) a = negM (turnRight u r a) := by
 have e (n : Int) (t : Int × Int) : mulM (-n, -n) t = negM (mulM (n, n) t) := mulM_neg (n, n) t
 unfold turnUp turnRight
 rw [e, e, e, e]
 unfold addM subM negM
 constructor <;> apply Prod.ext <;> dsimp only <;> omega
theorem turn_more (u r a : Int) : turnUp u r (a + 129600000) = turnUp u r a ∧ turnRight u r (a + 129600000) = turnRight u r a := by
 have e1 : 2 * (a + 129600000) = 2 * a + 259200000 := by omega
 have e2 : 2 * (a + 129600000) + 64800000 = 2 * a + 64800000 + 259200000 := by omega
 unfold turnUp turnRight cosM
 rw [e2, e1, sine_back, sine_back]
 exact ⟨rfl, rfl⟩
theorem mul_unit (n : Int) : mulM (n, n) (1000000000, 1000000000) = (n, n) ∧ mulM (n, n) (0, 0) = (0, 0) := by
 constructor
 ·unfold mulM min4 max4 upd
  apply Prod.ext <;> dsimp only <;> omega
 ·unfold mulM min4 max4 upd
  apply Prod.ext <;> dsimp only <;> simp
theorem turn_whole (u r : Int) : turnUp u r 0 = (u, u) ∧ turnRight u r 0 = (r, r) ∧ turnUp u r 32400000 = (r, r) ∧ turnRight u r 32400000 = (-u, -u) := by
 have z1 : sineM (2 * 0) = (0, 0) := by decide +kernel
 have z2 : cosM 0 = (1000000000, 1000000000) := by decide +kernel
 have z3 : sineM (2 * 32400000) = (1000000000, 1000000000) := by decide +kernel
 have z4 : cosM 32400000 = (0, 0) := by decide +kernel
 unfold turnUp turnRight
 rw [z1, z2, z3, z4, (mul_unit u).1, (mul_unit u).2, (mul_unit r).1, (mul_unit r).2]
 unfold addM subM
 simp
theorem SpanOk_is (x y : Int) : impl_SpanOk.f x y = some (decide (-1073000000 ≤ x ∧ x ≤ y ∧ y ≤ 1073000000)) ∧ spec_SpanOk.f x y = some (decide (-1073000000 ≤ x ∧ x ≤ y ∧ y ≤ 1073000000)) := by
 unfold impl_SpanOk.f spec_SpanOk.f
 simp only [in_is, sin_is, Option.bind_some]
 by_cases c1 : -1073000000 ≤ x <;> by_cases c2 : x ≤ y <;> by_cases c3 : y ≤ 1073000000
 all_goals first
  | (have c4 : x ≤ 1073000000 := (by omega); have c5 : -1073000000 ≤ y := (by omega); simp [c1, c2, c3, c4, c5])
  | (by_cases c4 : x ≤ 1073000000 <;> by_cases c5 : -1073000000 ≤ y <;> simp [c1, c2, c3, c4, c5])
theorem told_is {x y : Int} (h1 : -1073000000 ≤ x) (h2 : x ≤ y) (h3 : y ≤ 1073000000) : impl_told.f x y = some (x, y, true) := by
 unfold impl_told.f
 rw [(SpanOk_is x y).1]
 simp [h1, h2, h3]
theorem fit_is {x y : Int} (h1 : -1073000000 ≤ x) (h2 : x ≤ y) (h3 : y ≤ 1073000000) : spec_l2Fit.f x y = some (x, y, true) := by
 unfold spec_l2Fit.f
 rw [(SpanOk_is x y).2]
 simp [h1, h2, h3]
/-- A product that fits. -/
theorem mul_is {s t : Int × Int} (hs : OkM s) (ht : OkM t) (h1 : -1073000000 ≤ (mulM s t).1) (h2 : (mulM s t).2 ≤ 1073000000) {k : Nat} (hk : 1 ≤ k) :
  impl_SpanMul.f k s.1 s.2 t.1 t.2 = some ((mulM s t).1, (mulM s t).2, true) ∧ spec_SpanMul.f k s.1 s.2 t.1 t.2 = some ((mulM s t).1, (mulM s t).2, true) := by
 obtain ⟨k, rfl⟩ : ∃ q, k = q + 1 := ⟨k - 1, by omega⟩
 obtain ⟨s1, s2, s3⟩ := hs
 obtain ⟨t1, t2, t3⟩ := ht
 have o := mulM_ok s t
 have b1 := mul_bd (a := s.1) (b := t.1) (A := 1073000000) (B := 1073000000) (by omega) (by omega) (by omega) (by omega)
 have b2 := mul_bd (a := s.1) (b := t.2) (A := 1073000000) (B := 1073000000) (by omega) (by omega) (by omega) (by omega)
 have b3 := mul_bd (a := s.2) (b := t.1) (A := 1073000000) (B := 1073000000) (by omega) (by omega) (by omega) (by omega)
 have b4 := mul_bd (a := s.2) (b := t.2) (A := 1073000000) (B := 1073000000) (by omega) (by omega) (by omega) (by omega)
 unfold impl_SpanMul.f spec_SpanMul.f
 rw [(SpanOk_is s.1 s.2).1, (SpanOk_is s.1 s.2).2, (SpanOk_is t.1 t.2).1, (SpanOk_is t.1 t.2).2]
 have d1 : decide (-1073000000 ≤ s.1 ∧ s.1 ≤ s.2 ∧ s.2 ≤ 1073000000) = true := decide_eq_true ⟨s1, s2, s3⟩
 have d2 : decide (-1073000000 ≤ t.1 ∧ t.1 ≤ t.2 ∧ t.2 ≤ 1073000000) = true := decide_eq_true ⟨t1, t2, t3⟩
 rw [d1, d2]
 simp only [Option.bind_some, if_true, Bool.not_true]
 rw [impl_SpanMul.j0, spec_SpanMul.j0, if_neg (by decide), if_neg (by decide)]
 rw [w64 (x := s.1 * t.1) (by omega) (by omega), w64 (x := s.1 * t.2) (by omega) (by omega), w64 (x := s.2 * t.1) (by omega) (by omega), w64 (x := s.2 * t.2) (by omega) (by omega)]
 unfold spec_l2Four.f
 simp only [mn_is, mx_is, Option.bind_some]
 have e1 : min (min (min (s.1 * t.1) (s.1 * t.2)) (s.2 * t.1)) (s.2 * t.2) = min4 (s.1 * t.1) (s.1 * t.2) (s.2 * t.1) (s.2 * t.2) := by unfold min4; omega
 have e2 : max (max (max (s.1 * t.1) (s.1 * t.2)) (s.2 * t.1)) (s.2 * t.2) = max4 (s.1 * t.1) (s.1 * t.2) (s.2 * t.1) (s.2 * t.2) := by unfold max4; omega
 have e3 : min (min (s.1 * t.1) (s.1 * t.2)) (min (s.2 * t.1) (s.2 * t.2)) = min4 (s.1 * t.1) (s.1 * t.2) (s.2 * t.1) (s.2 * t.2) := rfl
 have e4 : max (max (s.1 * t.1) (s.1 * t.2)) (max (s.2 * t.1) (s.2 * t.2)) = max4 (s.1 * t.1) (s.1 * t.2) (s.2 * t.1) (s.2 * t.2) := rfl
 have n1 : -1200000000000000000 ≤ min4 (s.1 * t.1) (s.1 * t.2) (s.2 * t.1) (s.2 * t.2) := by unfold min4; omega
 have n2 : min4 (s.1 * t.1) (s.1 * t.2) (s.2 * t.1) (s.2 * t.2) ≤ 1200000000000000000 := by unfold min4; omega
 have n3 : -1200000000000000000 ≤ max4 (s.1 * t.1) (s.1 * t.2) (s.2 * t.1) (s.2 * t.2) := by unfold max4; omega
 have n4 : max4 (s.1 * t.1) (s.1 * t.2) (s.2 * t.1) (s.2 * t.2) ≤ 1200000000000000000 := by unfold max4; omega
 rw [e1, e2, e3, e4, down_is (by omega) (by omega) (by omega), up_is (by omega) (by omega) (by omega), sdown_is (by omega) (by omega) (by omega) (by omega), sup_is (by omega) (by omega) (by omega) (by omega)]
 simp only [Option.bind_some]
 have g1 : min4 (s.1 * t.1) (s.1 * t.2) (s.2 * t.1) (s.2 * t.2) / 1000000000 = (mulM s t).1 := rfl
 have g2 : upd (max4 (s.1 * t.1) (s.1 * t.2) (s.2 * t.1) (s.2 * t.2)) 1000000000 = (mulM s t).2 := rfl
 rw [g1, g2, told_is (by omega) o (by omega), fit_is (by omega) o (by omega)]
 exact ⟨rfl, rfl⟩
/-! ### places: squares, plain -/
def U01 (s : Int × Int) : Prop := 0 ≤ s.1 ∧ s.1 ≤ s.2 ∧ s.2 ≤ 1000000000
def clipM (s : Int × Int) : Int × Int := (max 0 (min 1000000000 s.1), max 0 (min 1000000000 s.2))
def mulP (s t : Int × Int) : Int × Int := (s.1 * t.1 / 1000000000, upd (s.2 * t.2) 1000000000)
theorem clip_ok {s : Int × Int} (h : s.1 ≤ s.2) : U01 (clipM s) := by unfold U01 clipM; dsimp only; omega
theorem clip_id {s : Int × Int} (h : U01 s) : clipM s = s := by
 obtain ⟨h1, h2, h3⟩ := h
 unfold clipM
 apply Prod.ext <;> dsimp only <;> omega
theorem prods {s t : Int × Int} (hs : U01 s) (ht : U01 t) : 0 ≤ s.1 * t.1 ∧ s.1 * t.1 ≤ s.1 * t.2 ∧ s.1 * t.2 ≤ s.2 * t.2 ∧ s.1 * t.1 ≤ s.2 * t.1 ∧ s.2 * t.1 ≤ s.2 * t.2 ∧ s.2 * t.2 ≤ 1000000000000000000 := by
 obtain ⟨a1, a2, a3⟩ := hs
 obtain ⟨b1, b2, b3⟩ := ht
 have p5 := mul_bd (a := s.2) (b := t.2) (A := 1000000000) (B := 1000000000) (by omega) (by omega) (by omega) (by omega)
 exact ⟨Int.mul_nonneg a1 b1, Int.mul_le_mul_of_nonneg_left b2 a1, Int.mul_le_mul_of_nonneg_right a2 (by omega), Int.mul_le_mul_of_nonneg_right a2 b1, Int.mul_le_mul_of_nonneg_left b2 (by omega), by omega⟩
theorem mulP_ok {s t : Int × Int} (hs : U01 s) (ht : U01 t) : mulM s t = mulP s t ∧ U01 (mulP s t) := by
 obtain ⟨p0, p1, p2, p3, p4, p5⟩ := prods hs ht
 constructor
 ·unfold mulM mulP
  have e1 : min4 (s.1 * t.1) (s.1 * t.2) (s.2 * t.1) (s.2 * t.2) = s.1 * t.1 := by unfold min4; omega
  have e2 : max4 (s.1 * t.1) (s.1 * t.2) (s.2 * t.1) (s.2 * t.2) = s.2 * t.2 := by unfold max4; omega
  rw [e1, e2]
 ·unfold mulP U01
  dsimp only
  have h3 := dn_up (a := s.2 * t.2) (b := 1000000000) (by omega)
  have h4 := dn_mono (a := s.1 * t.1) (b := s.2 * t.2) (c := 1000000000) (by omega) (by omega)
  refine ⟨Int.ediv_nonneg p0 (by omega), by omega, upd_le (by omega) (by omega)⟩
theorem half01 {h : Int} (h0 : 0 ≤ h) (h1 : h ≤ 129600000) : U01 (halfM h) := by
 obtain ⟨a, b, c, -, -⟩ := half_ends h0 h1
 exact ⟨a, b, c⟩
theorem sine_is_half (h : Int) : sineM h = halfM (h % 129600000) ∨ sineM h = negM (halfM (h % 129600000)) := by
 unfold sineM
 split
 ·right
  have e : h % 259200000 - 129600000 = h % 129600000 := by omega
  rw [e]
 ·left
  have e : h % 259200000 = h % 129600000 := by omega
  rw [e]
theorem sine_half_of {h : Int} (h0 : 0 ≤ h) (h1 : h ≤ 129600000) : sineM h = halfM h := by
 rcases Int.lt_or_le h 129600000 with g | g
 ·unfold sineM
  have e : h % 259200000 = h := by omega
  rw [e, if_neg (by omega)]
 ·have e : h = 129600000 := by omega
  subst e
  decide +kernel
theorem negM_negM (s : Int × Int) : negM (negM s) = s := by unfold negM; simp
def sqP (h : Int) : Int × Int := mulP (halfM (h % 129600000)) (halfM (h % 129600000))
theorem sq_half (h : Int) : mulM (sineM h) (sineM h) = sqP h ∧ U01 (sqP h) := by
 have u := half01 (h := h % 129600000) (by omega) (by omega)
 have m := mulP_ok u u
 refine ⟨?_, m.2⟩
 unfold sqP
 rcases sine_is_half h with e | e
 ·rw [e, m.1]
 ·rw [e, mulM_neg, mulM_comm, mulM_neg, negM_negM, m.1]
theorem sq_congr {h g : Int} (e : h % 129600000 = g % 129600000) : sqP h = sqP g := by unfold sqP; rw [e]
theorem sq_neg (h : Int) : sqP (-h) = sqP h := by
 rw [← (sq_half (-h)).1, ← (sq_half h).1, sine_neg, mulM_neg, mulM_comm, mulM_neg, negM_negM]
theorem sq_zero : sqP 0 = (0, 0) := by decide +kernel
theorem sq_quart : sqP 64800000 = (1000000000, 1000000000) := by decide +kernel
theorem cos_half {a : Int} (h0 : -32400000 ≤ a) (h1 : a ≤ 32400000) : cosM a = halfM (2 * a + 64800000) ∧ U01 (cosM a) := by
 have e : cosM a = halfM (2 * a + 64800000) := by unfold cosM; exact sine_half_of (by omega) (by omega)
 refine ⟨e, ?_⟩
 rw [e]
 exact half01 (by omega) (by omega)
theorem cos_neg (a : Int) : cosM (-a) = cosM a := by
 unfold cosM
 have r := sine_refl (2 * a + 64800000)
 have e : 129600000 - (2 * a + 64800000) = 2 * -a + 64800000 := by omega
 rw [e] at r
 exact r
theorem cos_pole {a : Int} (h : a = 32400000 ∨ a = -32400000) : cosM a = (0, 0) := by
 rcases h with h | h <;> subst h <;> decide +kernel
theorem mulP_comm (s t : Int × Int) : mulP s t = mulP t s := by unfold mulP; rw [Int.mul_comm t.1, Int.mul_comm t.2]
theorem mulP_zero (s : Int × Int) : mulP s (0, 0) = (0, 0) := by unfold mulP upd; simp
theorem mulP_zero' (s : Int × Int) : mulP (0, 0) s = (0, 0) := by rw [mulP_comm, mulP_zero]
theorem mulP_one (s : Int × Int) : mulP (1000000000, 1000000000) s = s := by unfold mulP upd; apply Prod.ext <;> dsimp only <;> omega
/-- The square of half the way between two places, as both tell it. -/
def squareM (pu pa qu qa : Int) : Int × Int := clipM (addM (mulP (mulP (cosM pu) (cosM qu)) (sqP (qa - pa))) (sqP (qu - pu)))
def Up (a : Int) : Prop := -32400000 ≤ a ∧ a ≤ 32400000
def Ar (a : Int) : Prop := 0 ≤ a ∧ a < 129600000
def farA (a : Int) : Int := (a + 64800000) % 129600000
theorem far_ar (a : Int) : Ar (farA a) := by unfold Ar farA; omega
theorem square_parts {pu qu : Int} (hp : Up pu) (hq : Up qu) (pa qa : Int) : U01 (mulP (cosM pu) (cosM qu)) ∧ U01 (mulP (mulP (cosM pu) (cosM qu)) (sqP (qa - pa))) ∧ U01 (squareM pu pa qu qa) := by
 have a := (mulP_ok (cos_half hp.1 hp.2).2 (cos_half hq.1 hq.2).2).2
 have b := (mulP_ok a (sq_half (qa - pa)).2).2
 have c := (sq_half (qu - pu)).2
 refine ⟨a, b, clip_ok ?_⟩
 unfold addM
 have := b.2.1
 have := c.2.1
 dsimp only
 omega
theorem square_sym (pu pa qu qa : Int) : squareM qu qa pu pa = squareM pu pa qu qa := by
 unfold squareM
 have e1 : pa - qa = -(qa - pa) := by omega
 have e2 : pu - qu = -(qu - pu) := by omega
 rw [e1, e2, sq_neg, sq_neg, mulP_comm (cosM qu)]
theorem square_around {pu pa qu qa pa' qa' : Int} (h : (qa' - pa') % 129600000 = (qa - pa) % 129600000) : squareM pu pa' qu qa' = squareM pu pa qu qa := by
 unfold squareM
 rw [sq_congr h]
theorem square_down (pu pa qu qa : Int) : squareM (-pu) pa (-qu) qa = squareM pu pa qu qa := by
 unfold squareM
 have e2 : -qu - -pu = -(qu - pu) := by omega
 rw [cos_neg, cos_neg, e2, sq_neg]
def Pole (a : Int) : Prop := a = 32400000 ∨ a = -32400000
theorem square_pole {pu : Int} (pa qu qa : Int) (h : Pole pu ∨ Pole qu) : squareM pu pa qu qa = sqP (qu - pu) := by
 unfold squareM
 have e : mulP (cosM pu) (cosM qu) = (0, 0) := by
  rcases h with h | h
  ·rw [cos_pole h, mulP_zero']
  ·rw [cos_pole h, mulP_zero]
 rw [e, mulP_zero']
 have a : addM (0, 0) (sqP (qu - pu)) = sqP (qu - pu) := by unfold addM; simp
 rw [a]
 exact clip_id (sq_half _).2
theorem square_up (pu pa qu : Int) : squareM pu pa qu pa = sqP (qu - pu) := by
 unfold squareM
 rw [Int.sub_self pa, sq_zero, mulP_zero]
 have a : addM (0, 0) (sqP (qu - pu)) = sqP (qu - pu) := by unfold addM; simp
 rw [a]
 exact clip_id (sq_half _).2
theorem square_middle (pa qa : Int) : squareM 0 pa 0 qa = sqP (qa - pa) := by
 unfold squareM
 have z : cosM 0 = (1000000000, 1000000000) := by decide +kernel
 rw [z, mulP_one, mulP_one, Int.sub_self 0, sq_zero]
 have a : addM (sqP (qa - pa)) (0, 0) = sqP (qa - pa) := by unfold addM; simp
 rw [a]
 exact clip_id (sq_half _).2
/-- The same place. -/
def Same (pu pa qu qa : Int) : Prop := pu = qu ∧ (pa = qa ∨ Pole pu)
theorem square_same {pu pa qu qa : Int} (h : Same pu pa qu qa) : squareM pu pa qu qa = (0, 0) := by
 obtain ⟨rfl, h⟩ := h
 rcases h with h | h
 ·subst h
  rw [square_up, Int.sub_self, sq_zero]
 ·rw [square_pole pa pu qa (.inl h), Int.sub_self, sq_zero]
theorem square_from {pu pa qu qa : Int} (ru ra : Int) (h : Same pu pa qu qa) : squareM ru ra pu pa = squareM ru ra qu qa := by
 obtain ⟨rfl, h⟩ := h
 rcases h with h | h
 ·subst h; rfl
 ·rw [square_pole ra pu pa (.inr h), square_pole ra pu qa (.inr h)]
/-! ### roots and angles -/
theorem sq_lt' {a b : Int} (ha : 0 ≤ a) (h : a < b) : a * a < b * b := by
 have := sq_le (a := a + 1) (b := b) (by omega) (by omega)
 rw [Int.add_mul, Int.mul_add] at this
 omega
def rootM (a : Int) : Int := (halveM (fun m => decide (m * m ≤ a)) 40 0 1073741825).1
def ceilM (a : Int) : Int := if rootM a * rootM a < a then rootM a + 1 else rootM a
theorem rootM_is {a : Int} (h0 : 0 ≤ a) (h1 : a ≤ 1152921504606846976) : IsRoot a (rootM a) := by
 obtain ⟨a1, a2, a3, a4, a5⟩ := halveM_tells (fun m => decide (m * m ≤ a)) 31 40 0 1073741825 (by omega) (by omega) (by omega)
 unfold rootM
 generalize halveM (fun m => decide (m * m ≤ a)) 40 0 1073741825 = x at *
 refine ⟨a1, ?_, ?_⟩
 ·rcases a4 with h | h
  ·rw [h]; simpa using h0
  ·exact of_decide_eq_true h
 ·rw [← a2]
  rcases a5 with h | h
  ·rw [h]; omega
  ·have := of_decide_eq_false h; omega
theorem root01 {n : Int} (h0 : 0 ≤ n) (h1 : n ≤ 1000000000) : 0 ≤ rootM (1000000000 * n) ∧ rootM (1000000000 * n) * rootM (1000000000 * n) ≤ 1000000000 * n ∧ rootM (1000000000 * n) ≤ 1000000000 ∧
  0 ≤ ceilM (1000000000 * n) ∧ 1000000000 * n ≤ ceilM (1000000000 * n) * ceilM (1000000000 * n) ∧ ceilM (1000000000 * n) ≤ 1000000000 := by
 obtain ⟨r1, r2, r3⟩ := rootM_is (a := 1000000000 * n) (by omega) (by omega)
 generalize hr : rootM (1000000000 * n) = r at *
 have b : r ≤ 1000000000 := by
  rcases Int.lt_or_le 1000000000 r with g | g
  ·have := sq_le (a := 1000000001) (b := r) (by omega) (by omega); omega
  ·exact g
 unfold ceilM
 rw [hr]
 split
 ·rename_i c
  refine ⟨r1, r2, b, by omega, by omega, ?_⟩
  rcases Int.lt_or_le 999999999 r with g | g
  ·have e : r = 1000000000 := by omega
   subst e; omega
  ·omega
 ·exact ⟨r1, r2, b, r1, by omega, b⟩
theorem root_order {m n : Int} (h0 : 0 ≤ m) (h1 : m ≤ n) (h2 : n ≤ 1000000000) : rootM (1000000000 * m) ≤ ceilM (1000000000 * n) := by
 obtain ⟨a1, a2, -, -, -, -⟩ := root01 h0 (show m ≤ 1000000000 by omega)
 obtain ⟨-, -, -, b1, b2, -⟩ := root01 (show 0 ≤ n by omega) h2
 rcases Int.lt_or_le (ceilM (1000000000 * n)) (rootM (1000000000 * m)) with g | g
 ·have := sq_le (a := ceilM (1000000000 * n) + 1) (b := rootM (1000000000 * m)) (by omega) (by omega)
  have e : (ceilM (1000000000 * n) + 1) * (ceilM (1000000000 * n) + 1) = ceilM (1000000000 * n) * ceilM (1000000000 * n) + 2 * ceilM (1000000000 * n) + 1 := by
   rw [Int.add_mul, Int.mul_add]; omega
  omega
 ·exact g
/-- The angles of a square. -/
def distOf (s : Int × Int) : Int × Int := (max 0 (2 * (backM (rootM (1000000000 * s.1))).1), 2 * (backM (ceilM (1000000000 * s.2))).2)
/-- What the angles of a square tell. -/
theorem dist_tells {s : Int × Int} (h : U01 s) : ∃ b c : Int, distOf s = (max 0 (2 * b), 2 * c) ∧ -32400000 ≤ b ∧ b ≤ 32400000 ∧ 0 ≤ c ∧ c ≤ 32400000 ∧
  (sineM (2 * b)).2 ≤ rootM (1000000000 * s.1) ∧ ceilM (1000000000 * s.2) ≤ (sineM (2 * c)).1 := by
 obtain ⟨h1, h2, h3⟩ := h
 obtain ⟨a1, a2, a3, -, -, -⟩ := root01 h1 (show s.1 ≤ 1000000000 by omega)
 obtain ⟨-, -, -, b1, b2, b3⟩ := root01 (show 0 ≤ s.2 by omega) h3
 obtain ⟨c1, c2, c3, c4, c5⟩ := back_tells (num := rootM (1000000000 * s.1)) (by omega) (by omega)
 obtain ⟨d1, d2, d3, d4, d5⟩ := back_tells (num := ceilM (1000000000 * s.2)) (by omega) (by omega)
 refine ⟨_, _, rfl, c1, by omega, ?_, d3, c4, d5⟩
 have z : (sineM (2 * 0)).2 = 0 := by decide +kernel
 exact sine_order (n := ceilM (1000000000 * s.2)) (by omega) (by omega) (by omega) (by omega) d5
theorem dist_order {s t : Int × Int} (hs : U01 s) (ht : U01 t) (h : s.1 ≤ t.2) : (distOf s).1 ≤ (distOf t).2 := by
 obtain ⟨b, c, e, b1, b2, c1, c2, p, q⟩ := dist_tells hs
 obtain ⟨b', c', e', b1', b2', c1', c2', p', q'⟩ := dist_tells ht
 rw [e, e']
 dsimp only
 have r := root_order hs.1 h ht.2.2
 have o := sine_order (a := b) (b := c') (n := rootM (1000000000 * s.1)) (by omega) (by omega) (by omega) p (by omega)
 omega
theorem dist_ends {s : Int × Int} (hs : U01 s) : 0 ≤ (distOf s).1 ∧ (distOf s).1 ≤ (distOf s).2 ∧ (distOf s).2 ≤ 64800000 := by
 have o := dist_order hs hs hs.2.1
 obtain ⟨b, c, e, b1, b2, c1, c2, p, q⟩ := dist_tells hs
 rw [e] at o ⊢
 dsimp only at o ⊢
 omega
theorem dist_zero : (distOf (0, 0)).1 = 0 := by
 obtain ⟨b, c, e, b1, b2, c1, c2, p, q⟩ := dist_tells (s := (0, 0)) ⟨by decide, by decide, by decide⟩
 have z : rootM (1000000000 * (0, 0).1) = 0 := by decide +kernel
 have z2 : (sineM (2 * 0)).1 = 0 := by decide +kernel
 rw [z] at p
 have o := sine_order (a := b) (b := 0) (n := 0) b1 b2 (by omega) p (by omega)
 rw [e]
 dsimp only
 omega
/-- Straight on it is as far as the angle. -/
theorem dist_has {d : Int} (h0 : 0 ≤ d) (h1 : d ≤ 64800000) : (distOf (sqP d)).1 ≤ d ∧ d ≤ (distOf (sqP d)).2 := by
 have u := (sq_half d).2
 obtain ⟨b, c, e, b1, b2, c1, c2, p, q⟩ := dist_tells u
 obtain ⟨a1, a2, a3, -, -, -⟩ := root01 u.1 (show (sqP d).1 ≤ 1000000000 by have := u.2.1; have := u.2.2; omega)
 obtain ⟨-, -, -, f1, f2, f3⟩ := root01 (show 0 ≤ (sqP d).2 by have := u.1; have := u.2.1; omega) u.2.2
 have em : d % 129600000 = d := by omega
 have es := sine_half_of h0 (show d ≤ 129600000 by omega)
 have hh := half01 h0 (show d ≤ 129600000 by omega)
 have s1 : 1000000000 * (sqP d).1 ≤ (sineM d).1 * (sineM d).1 := by
  unfold sqP mulP
  rw [em, es]
  have := dn_le (a := (halfM d).1 * (halfM d).1) (b := 1000000000) (by omega)
  dsimp only
  omega
 have s2 : (sineM d).2 * (sineM d).2 ≤ 1000000000 * (sqP d).2 := by
  unfold sqP mulP
  rw [em, es]
  have := upd_ge (a := (halfM d).2 * (halfM d).2) (b := 1000000000) (by omega)
  dsimp only
  omega
 rw [← es] at hh
 generalize rootM (1000000000 * (sqP d).1) = r at *
 generalize ceilM (1000000000 * (sqP d).2) = r2 at *
 have l1 : r ≤ (sineM d).1 := by
  rcases Int.lt_or_le (sineM d).1 r with g | g
  ·have := sq_lt' (a := (sineM d).1) (b := r) hh.1 g; omega
  ·exact g
 have l2 : (sineM d).2 ≤ r2 := by
  rcases Int.lt_or_le r2 (sineM d).2 with g | g
  ·have := sq_lt' (a := r2) (b := (sineM d).2) f1 g; omega
  ·exact g
 rw [e]
 dsimp only
 constructor
 ·rcases Int.lt_or_le d (2 * b) with g | g
  ·have := sine_grow (a := d) (b := 2 * b) (by omega) g (by omega); omega
  ·omega
 ·rcases Int.lt_or_le (2 * c) d with g | g
  ·have := sine_grow (a := 2 * c) (b := d) (by omega) g (by omega); omega
  ·exact g

end Go.Proofs.Ytmcippkpgmehdaa.M
