import Derived.Test.YtcdgplkmahabiaaP3
import Derived.Test.YtcdgplkmahabiaaMd
import Derived.Test.YtcdgplkmahabiaaMi
import Derived.Test.YtcdgplkmahabiaaNd
namespace Go.Proofs.Ytcdgplkmahabiaa.M
open Go.RowKit Go.Proofs.YtcdgplkmahabiaaW.PrintWords Go.Proofs.YtcdgplkmahabiaaW.PrintLast Go.Proofs.YtcdgplkmahabiaaW.PrintMore
attribute [local go_sem] max2_int min2_int max_two min_two max_three min_three max_four min_four
attribute [local go_sem high] eqA23 eqA30
attribute [local go_sem] fld23_0 fld23_1 fld30_0 fld30_1 fld55_0 fld55_1 fld55_2 fld55_3 fld55_4
set_option linter.unusedVariables false
set_option linter.unusedSimpArgs false
/-- Halving by a question, in whole numbers. -/
def halveM (p : Int → Bool) : Nat → Int → Int → Int × Int
  | 0, lo, hi => (lo, hi)
  | k + 1, lo, hi => if hi - lo > 1 then (if p ((lo + hi) / 2) = true then halveM p k ((lo + hi) / 2) hi else halveM p k lo ((lo + hi) / 2)) else (lo, hi)
theorem halveM_tells (p : Int → Bool) (d : Nat) : ∀ (k : Nat) (lo hi : Int), lo < hi → hi - lo ≤ 2 ^ d → d < k →
    lo ≤ (halveM p k lo hi).1 ∧ (halveM p k lo hi).2 = (halveM p k lo hi).1 + 1 ∧ (halveM p k lo hi).2 ≤ hi ∧
    ((halveM p k lo hi).1 = lo ∨ p (halveM p k lo hi).1 = true) ∧ ((halveM p k lo hi).2 = hi ∨ p (halveM p k lo hi).2 = false) := by
  induction d with
  | zero =>
    intro k lo hi h1 h2 h3
    obtain ⟨k, rfl⟩ : ∃ q, k = q + 1 := ⟨k - 1, by omega⟩
    rw [halveM, if_neg (by omega)]
    exact ⟨by omega, by simp; omega, by omega, .inl rfl, .inl rfl⟩
  | succ d ih =>
    intro k lo hi h1 h2 h3
    obtain ⟨k, rfl⟩ : ∃ q, k = q + 1 := ⟨k - 1, by omega⟩
    have hp : (2 : Int) ^ (d + 1) = 2 * 2 ^ d := by rw [Int.pow_succ]; omega
    rw [halveM]
    by_cases c : hi - lo > 1
    · rw [if_pos c]
      generalize hm : (lo + hi) / 2 = m
      cases hpm : p m with
      | true =>
        rw [if_pos rfl]
        obtain ⟨b1, b2, b3, b4, b5⟩ := ih k m hi (by omega) (by omega) (by omega)
        refine ⟨by omega, b2, b3, ?_, b5⟩
        rcases b4 with h | h
        · right; rw [h, hpm]
        · exact .inr h
      | false =>
        rw [if_neg (by decide)]
        obtain ⟨b1, b2, b3, b4, b5⟩ := ih k lo m (by omega) (by omega) (by omega)
        refine ⟨b1, b2, by omega, b4, ?_⟩
        rcases b5 with h | h
        · right; rw [h, hpm]
        · exact .inr h
    · rw [if_neg c]
      exact ⟨by omega, by simp; omega, by omega, .inl rfl, .inl rfl⟩
/-- Of two questions of which one holds where the other one does, and what holds goes down: the ends. -/
def backP (num : Int) (a : Int) : Bool := decide ((sineM (2 * a)).2 ≤ num)
def backQ (num : Int) (a : Int) : Bool := decide ((sineM (2 * a)).1 < num)
def backM (num : Int) : Int × Int := ((halveM (backP num) 40 (-32400000) 32400000).1, (halveM (backQ num) 40 (-32400000) 32400000).2)
theorem back_tells {num : Int} (h1 : -1000000000 ≤ num) (h2 : num ≤ 1000000000) :
    -32400000 ≤ (backM num).1 ∧ (backM num).1 ≤ (backM num).2 ∧ (backM num).2 ≤ 32400000 ∧ (sineM (2 * (backM num).1)).2 ≤ num ∧ num ≤ (sineM (2 * (backM num).2)).1 := by
  obtain ⟨a1, a2, a3, a4, -⟩ := halveM_tells (backP num) 30 40 (-32400000) 32400000 (by omega) (by omega) (by omega)
  obtain ⟨b1, b2, b3, -, b5⟩ := halveM_tells (backQ num) 30 40 (-32400000) 32400000 (by omega) (by omega) (by omega)
  have lo : (sineM (2 * (backM num).1)).2 ≤ num := by
    rcases a4 with h | h
    · have e : (backM num).1 = -32400000 := h
      rw [e]
      have s : (sineM (2 * -32400000)).2 = -1000000000 := by decide +kernel
      omega
    · exact of_decide_eq_true h
  have hi : num ≤ (sineM (2 * (backM num).2)).1 := by
    rcases b5 with h | h
    · have e : (backM num).2 = 32400000 := h
      rw [e]
      have s : (sineM (2 * 32400000)).1 = 1000000000 := by decide +kernel
      omega
    · have := of_decide_eq_false h
      have e : (backM num).2 = (halveM (backQ num) 40 (-32400000) 32400000).2 := rfl
      rw [e]; omega
  have c1 : -32400000 ≤ (backM num).1 := a1
  have c2 : (backM num).2 ≤ 32400000 := b3
  have c3 : -32400000 ≤ (backM num).2 := by have e : (backM num).2 = (halveM (backQ num) 40 (-32400000) 32400000).2 := rfl; omega
  have c4 : (backM num).1 ≤ 32400000 := by have e : (backM num).1 = (halveM (backP num) 40 (-32400000) 32400000).1 := rfl; omega
  refine ⟨c1, ?_, c2, lo, hi⟩
  rcases Int.lt_or_le (backM num).2 (backM num).1 with g | g
  · have := sine_grow (a := 2 * (backM num).2) (b := 2 * (backM num).1) (by omega) (by omega) (by omega)
    omega
  · exact g
/-- Where one angle's upper end is not more than what another one's lower end is not less than, that one is not less. -/
theorem sine_order {a b n : Int} (ha : -32400000 ≤ a) (ha2 : a ≤ 32400000) (hb : -32400000 ≤ b) (h1 : (sineM (2 * a)).2 ≤ n) (h2 : n ≤ (sineM (2 * b)).1) : a ≤ b := by
  rcases Int.lt_or_le b a with g | g
  · have := sine_grow (a := 2 * b) (b := 2 * a) (by omega) (by omega) (by omega)
    omega
  · exact g
theorem back_neg {num : Int} (h1 : -1000000000 ≤ num) (h2 : num ≤ 1000000000) : -(backM num).2 ≤ (backM (-num)).2 ∧ (backM (-num)).1 ≤ -(backM num).1 := by
  obtain ⟨a1, a2, a3, a4, a5⟩ := back_tells h1 h2
  obtain ⟨b1, b2, b3, b4, b5⟩ := back_tells (num := -num) (by omega) (by omega)
  have n1 := sine_neg (2 * (backM num).2)
  have n2 := sine_neg (2 * (backM num).1)
  have e1 : -(2 * (backM num).2) = 2 * -(backM num).2 := by omega
  have e2 : -(2 * (backM num).1) = 2 * -(backM num).1 := by omega
  rw [e1] at n1
  rw [e2] at n2
  constructor
  · exact sine_order (n := -num) (by omega) (by omega) (by omega) (by rw [n1]; simp only [negM]; omega) b5
  · exact sine_order (n := -num) (by omega) (by omega) (by omega) b4 (by rw [n2]; simp only [negM]; omega)
theorem halve_is (q : Int → Option Bool) (p : Int → Bool) (A : Int) (hA : A ≤ 1000000000) (hq : ∀ a, -A ≤ a → a ≤ A → q a = some (p a)) (d : Nat) : ∀ (k m : Nat) (lo hi : Int), -A ≤ lo → lo < hi → hi ≤ A → hi - lo ≤ 2 ^ d → d < k → d < m →
    impl_halve.l0 q k lo hi = some (halveM p m lo hi) := by
  induction d with
  | zero =>
    intro k m lo hi h0 h1 h2 h3 h4 h5
    obtain ⟨k, rfl⟩ : ∃ q, k = q + 1 := ⟨k - 1, by omega⟩
    obtain ⟨m, rfl⟩ : ∃ q, m = q + 1 := ⟨m - 1, by omega⟩
    rw [impl_halve.l0, halveM, w64 (x := hi - lo) (by omega) (by omega), if_neg (by omega), if_neg (by omega)]
  | succ d ih =>
    intro k m lo hi h0 h1 h2 h3 h4 h5
    obtain ⟨k, rfl⟩ : ∃ q, k = q + 1 := ⟨k - 1, by omega⟩
    obtain ⟨m, rfl⟩ : ∃ q, m = q + 1 := ⟨m - 1, by omega⟩
    have hp : (2 : Int) ^ (d + 1) = 2 * 2 ^ d := by rw [Int.pow_succ]; omega
    rw [impl_halve.l0, halveM, w64 (x := hi - lo) (by omega) (by omega)]
    by_cases c : hi - lo > 1
    · rw [if_pos c, if_pos c, w64 (x := lo + hi) (by omega) (by omega), down_is (by omega) (by omega) (by omega)]
      simp only [Option.bind_some]
      have m1 : lo < (lo + hi) / 2 := by omega
      have m2 : (lo + hi) / 2 < hi := by omega
      have m3 : hi - (lo + hi) / 2 ≤ 2 ^ d := by omega
      have m4 : (lo + hi) / 2 - lo ≤ 2 ^ d := by omega
      generalize (lo + hi) / 2 = x at *
      rw [hq x (by omega) (by omega)]
      simp only [Option.bind_some]
      rw [ih k m x hi (by omega) m2 h2 m3 (by omega) (by omega), ih k m lo x h0 m1 (by omega) m4 (by omega) (by omega)]
      split <;> rfl
    · rw [if_neg c, if_neg c]
theorem shalve_is (b0 : Bool) (n1 n2 n3 : Int) (b4 : Bool) (p : Int → Bool) (A : Int) (hA : A ≤ 1000000000) (K : Nat) (hq : ∀ k a, K ≤ k → -A ≤ a → a ≤ A → spec_l13Ask_less.f k b0 n1 n2 n3 b4 a = some (p a)) (d : Nat) : ∀ (k m : Nat) (lo hi : Int), -A ≤ lo → lo < hi → hi ≤ A → hi - lo ≤ 2 ^ d → d + 1 + K ≤ k → d < m →
    spec_l13Ask_half.l0 k lo hi b0 n1 n2 n3 b4 = some (halveM p m lo hi) := by
  induction d with
  | zero =>
    intro k m lo hi h0 h1 h2 h3 h4 h5
    obtain ⟨k, rfl⟩ : ∃ q, k = q + 1 := ⟨k - 1, by omega⟩
    obtain ⟨m, rfl⟩ : ∃ q, m = q + 1 := ⟨m - 1, by omega⟩
    rw [spec_l13Ask_half.l0, halveM, w64 (x := hi - lo) (by omega) (by omega), if_neg (by omega), if_neg (by omega)]
  | succ d ih =>
    intro k m lo hi h0 h1 h2 h3 h4 h5
    obtain ⟨k, rfl⟩ : ∃ q, k = q + 1 := ⟨k - 1, by omega⟩
    obtain ⟨m, rfl⟩ : ∃ q, m = q + 1 := ⟨m - 1, by omega⟩
    have hp : (2 : Int) ^ (d + 1) = 2 * 2 ^ d := by rw [Int.pow_succ]; omega
    rw [spec_l13Ask_half.l0, halveM, w64 (x := hi - lo) (by omega) (by omega)]
    by_cases c : hi - lo > 1
    · rw [if_pos c, if_pos c, w64 (x := lo + hi) (by omega) (by omega), sdown_is (by omega) (by omega) (by omega) (by omega)]
      simp only [Option.bind_some]
      have m1 : lo < (lo + hi) / 2 := by omega
      have m2 : (lo + hi) / 2 < hi := by omega
      have m3 : hi - (lo + hi) / 2 ≤ 2 ^ d := by omega
      have m4 : (lo + hi) / 2 - lo ≤ 2 ^ d := by omega
      generalize (lo + hi) / 2 = x at *
      rw [hq k x (by omega) (by omega) (by omega)]
      simp only [Option.bind_some]
      rw [ih k m x hi (by omega) m2 h2 m3 (by omega) (by omega), ih k m lo x h0 m1 (by omega) m4 (by omega) (by omega)]
      split <;> rfl
    · rw [if_neg c, if_neg c]
theorem sineBack_is {num : Int} {k : Nat} (hk : 200 ≤ k) :
    impl_sineBack.f k num = some (backM num) ∧ spec_l13Ask_half.f k true num 0 0 false (-32400000) 32400000 = some (halveM (backP num) 40 (-32400000) 32400000) ∧ spec_l13Ask_half.f k true num 0 0 true (-32400000) 32400000 = some (halveM (backQ num) 40 (-32400000) 32400000) := by
  refine ⟨?_, ?_, ?_⟩
  · unfold impl_sineBack.f
    rw [halve_is (impl_sineBack.q1 k num) (backP num) 32400000 (by omega) (fun a h1 h2 => by
        unfold impl_sineBack.q1 backP
        rw [w64 (x := 2 * a) (by omega) (by omega), (sine_is (h := 2 * a) (by omega) (by omega) (by omega)).1]; rfl) 30 k 40 (-32400000) 32400000 (by omega) (by omega) (by omega) (by omega) (by omega) (by omega),
      halve_is (impl_sineBack.q2 k num) (backQ num) 32400000 (by omega) (fun a h1 h2 => by
        unfold impl_sineBack.q2 backQ
        rw [w64 (x := 2 * a) (by omega) (by omega), (sine_is (h := 2 * a) (by omega) (by omega) (by omega)).1]; rfl) 30 k 40 (-32400000) 32400000 (by omega) (by omega) (by omega) (by omega) (by omega) (by omega)]
    rfl
  · unfold spec_l13Ask_half.f
    exact shalve_is _ _ _ _ _ (backP num) 32400000 (by omega) 80 (fun k a hk h1 h2 => by
      unfold spec_l13Ask_less.f backP
      rw [if_pos rfl, w64 (x := 2 * a) (by omega) (by omega), (sine_is (h := 2 * a) (by omega) (by omega) (by omega)).2]; rfl) 30 k 40 _ _ (by omega) (by omega) (by omega) (by omega) (by omega) (by omega)
  · unfold spec_l13Ask_half.f
    exact shalve_is _ _ _ _ _ (backQ num) 32400000 (by omega) 80 (fun k a hk h1 h2 => by
      unfold spec_l13Ask_less.f backQ
      rw [if_pos rfl, w64 (x := 2 * a) (by omega) (by omega), (sine_is (h := 2 * a) (by omega) (by omega) (by omega)).2]; rfl) 30 k 40 _ _ (by omega) (by omega) (by omega) (by omega) (by omega) (by omega)
/-- Both tell the same of a sine. -/
theorem SineBack_is {num : Int} {k : Nat} (hk : 200 ≤ k) :
    impl_SineBack.f k num = (if -1000000000 ≤ num ∧ num ≤ 1000000000 then some ((backM num).1, (backM num).2, true) else some (0, 0, false)) ∧
    spec_SineBack.f k num = (if -1000000000 ≤ num ∧ num ≤ 1000000000 then some ((backM num).1, (backM num).2, true) else some (0, 0, false)) := by
  obtain ⟨a, b, c⟩ := sineBack_is (num := num) hk
  unfold impl_SineBack.f spec_SineBack.f impl_isPart.f
  simp only [in_is, sin_is, Option.bind_some, a, b, c]
  by_cases h : -1000000000 ≤ num ∧ num ≤ 1000000000
  · simp only [h, decide_true, if_true]
    exact ⟨rfl, rfl⟩
  · simp only [h, decide_false]
    exact ⟨rfl, rfl⟩
theorem SineOf_is {a : Int} {k : Nat} (hk : 100 ≤ k) (h1 : -1000000000000 ≤ a) (h2 : a ≤ 1000000000000) :
    impl_SineOf.f k a = some ((sineM (2 * a)).1, (sineM (2 * a)).2, true) := by
  unfold impl_SineOf.f impl_isAngle.f
  simp only [in_is, Option.bind_some]
  rw [w64 (x := 2 * a) (by omega) (by omega), (sine_is (h := 2 * a) (by omega) (by omega) (by omega)).1]
  simp [h1, h2]
theorem cosine_is {a : Int} {k : Nat} (hk : 100 ≤ k) (h1 : -10000000000000 ≤ a) (h2 : a ≤ 10000000000000) : impl_cosine.f k a = some (sineM (2 * (a + 32400000))) := by
  unfold impl_cosine.f
  rw [w64 (x := a + 32400000) (by omega) (by omega), w64 (x := 2 * (a + 32400000)) (by omega) (by omega), (sine_is (h := 2 * (a + 32400000)) (by omega) (by omega) (by omega)).1]
  rfl
theorem CosOf_is {a : Int} {k : Nat} (hk : 100 ≤ k) (h1 : -1000000000000 ≤ a) (h2 : a ≤ 1000000000000) :
    impl_CosOf.f k a = some ((sineM (2 * (a + 32400000))).1, (sineM (2 * (a + 32400000))).2, true) := by
  unfold impl_CosOf.f impl_isAngle.f
  simp only [in_is, Option.bind_some]
  rw [cosine_is (by omega) (by omega) (by omega)]
  simp [h1, h2]

end Go.Proofs.Ytcdgplkmahabiaa.M
