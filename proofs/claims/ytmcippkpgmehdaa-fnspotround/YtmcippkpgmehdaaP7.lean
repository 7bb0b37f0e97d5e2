import Derived.Test.YtmcippkpgmehdaaP6
import Derived.Test.YtmcippkpgmehdaaMg
import Derived.Test.YtmcippkpgmehdaaMh
import Derived.Test.YtmcippkpgmehdaaMk
import Derived.Test.YtmcippkpgmehdaaNc
import Derived.Test.YtmcippkpgmehdaaNd
import Derived.Test.YtmcippkpgmehdaaNf
import Derived.Test.YtmcippkpgmehdaaNj
namespace Go.Proofs.Ytmcippkpgmehdaa.M
open Go.RowKit Go.Proofs.YtmcippkpgmehdaaW.PrintWords Go.Proofs.YtmcippkpgmehdaaW.PrintLast Go.Proofs.YtmcippkpgmehdaaW.PrintMore
attribute [local go_sem] max2_int min2_int max_two min_two max_three min_three max_four min_four
attribute [local go_sem high] eqA42 eqA29 eqA24
attribute [local go_sem] fld42_0 fld42_1 fld29_0 fld29_1 fld24_0 fld24_1 fld38_0 fld38_1 fld88_0 fld88_1 fld88_2 fld88_3 fld88_4
set_option linter.unusedVariables false
set_option linter.unusedSimpArgs false
theorem impl_root_tells (a : Int) (ha : 0 ≤ a) (ha2 : a ≤ 1152921504606846976) (d : Nat) : ∀ (k : Nat) (lo hi : Int), 0 ≤ lo → lo ≤ hi → hi ≤ 1073741824 → hi - lo < 2 ^ d → d < k →
  lo * lo ≤ a → a < (hi + 1) * (hi + 1) → ∃ r, impl_root.l0 k a lo hi = some r ∧ IsRoot a r := by
 induction d with
 | zero =>
  intro k lo hi h0 h1 h2 hd hk hlo hhi
  obtain ⟨k, rfl⟩ : ∃ m, k = m + 1 := ⟨k - 1, by omega⟩
  have : ¬ lo < hi := by omega
  obtain rfl : lo = hi := by omega
  exact ⟨lo, by simp only [impl_root.l0]; rw [if_neg this], h0, hlo, hhi⟩
 | succ d ih =>
  intro k lo hi h0 h1 h2 hd hk hlo hhi
  obtain ⟨k, rfl⟩ : ∃ m, k = m + 1 := ⟨k - 1, by omega⟩
  have hp : (2 : Int) ^ (d + 1) = 2 * 2 ^ d := by rw [Int.pow_succ]; omega
  simp only [impl_root.l0]
  by_cases h : lo < hi
  ·rw [if_pos h]
   have e1 : wrap64 (Int.tdiv (wrap64 ((wrap64 (lo + hi)) + 1)) 2) = (lo + hi + 1) / 2 := by
    rw [w64 (x := lo + hi) (by omega) (by omega), w64 (x := lo + hi + 1) (by omega) (by omega), Int.tdiv_eq_ediv_of_nonneg (by omega)]
    exact w64 (by omega) (by omega)
   rw [e1]
   generalize hm : (lo + hi + 1) / 2 = m
   have m1 : lo < m := by omega
   have m2 : m ≤ hi := by omega
   have hs := sq_bd (a := m) (A := 1073741824) (by omega) (by omega)
   rw [w64 (x := m * m) (by omega) (by omega), w64 (x := m - 1) (by omega) (by omega)]
   by_cases hc : m * m ≤ a
   ·rw [if_pos hc]
    exact ih k m hi (by omega) (by omega) (by omega) (by omega) (by omega) hc hhi
   ·rw [if_neg hc]
    exact ih k lo (m - 1) h0 (by omega) (by omega) (by omega) (by omega) hlo (by rw [Int.sub_add_cancel]; omega)
  ·rw [if_neg h]
   obtain rfl : lo = hi := by omega
   exact ⟨lo, rfl, h0, hlo, hhi⟩
theorem impl_root_is (a : Int) (ha : 0 ≤ a) (ha2 : a ≤ 1152921504606846976) (k : Nat) (hk : 40 ≤ k) : ∃ r, impl_root.f k a = some r ∧ IsRoot a r :=
 impl_root_tells a ha ha2 31 k 0 1073741824 (by omega) (by omega) (by omega) (by omega) (by omega) (by omega) (by omega)
theorem spec_root_tells (a : Int) (ha : 0 ≤ a) (ha2 : a ≤ 1152921504606846976) (d : Nat) : ∀ (k : Nat) (lo hi : Int), 0 ≤ lo → lo < hi → hi ≤ 1073741825 → hi - lo ≤ 2 ^ d → d < k →
  lo * lo ≤ a → a < hi * hi → ∃ r, spec_l1Root.l0 k a lo hi = some r ∧ IsRoot a r := by
 induction d with
 | zero =>
  intro k lo hi h0 h1 h2 hd hk hlo hhi
  obtain ⟨k, rfl⟩ : ∃ m, k = m + 1 := ⟨k - 1, by omega⟩
  obtain rfl : hi = lo + 1 := by omega
  refine ⟨lo, ?_, h0, hlo, hhi⟩
  simp only [spec_l1Root.l0]
  rw [w64 (x := lo + 1 - lo) (by omega) (by omega), if_neg (by omega)]
 | succ d ih =>
  intro k lo hi h0 h1 h2 hd hk hlo hhi
  obtain ⟨k, rfl⟩ : ∃ m, k = m + 1 := ⟨k - 1, by omega⟩
  have hp : (2 : Int) ^ (d + 1) = 2 * 2 ^ d := by rw [Int.pow_succ]; omega
  simp only [spec_l1Root.l0]
  rw [w64 (x := hi - lo) (by omega) (by omega)]
  by_cases h : hi - lo > 1
  ·rw [if_pos h]
   have e1 : wrap64 (lo + wrap64 (Int.tdiv (hi - lo) 2)) = lo + (hi - lo) / 2 := by
    rw [Int.tdiv_eq_ediv_of_nonneg (by omega), w64 (x := (hi - lo) / 2) (by omega) (by omega)]
    exact w64 (by omega) (by omega)
   rw [e1]
   generalize hm : lo + (hi - lo) / 2 = m
   have m1 : lo < m := by omega
   have m2 : m < hi := by omega
   have hs := sq_bd (a := m) (A := 1073741824) (by omega) (by omega)
   rw [w64 (x := m * m) (by omega) (by omega)]
   by_cases hc : m * m ≤ a
   ·rw [if_pos hc]
    exact ih k m hi (by omega) (by omega) (by omega) (by omega) (by omega) hc hhi
   ·rw [if_neg hc]
    exact ih k lo m h0 (by omega) (by omega) (by omega) (by omega) hlo (by omega)
  ·rw [if_neg h]
   obtain rfl : hi = lo + 1 := by omega
   exact ⟨lo, rfl, h0, hlo, hhi⟩
theorem spec_root_is (a : Int) (ha : 0 ≤ a) (ha2 : a ≤ 1152921504606846976) (k : Nat) (hk : 40 ≤ k) : ∃ r, spec_l1Root.f k a = some r ∧ IsRoot a r :=
 spec_root_tells a ha ha2 31 k 0 1073741825 (by omega) (by omega) (by omega) (by omega) (by omega) (by omega) (by omega)
/-- The root rounded up. -/
def ceilRoot (a r : Int) : Int := if r * r < a then r + 1 else r
theorem roots (a : Int) (ha : 0 ≤ a) (ha2 : a ≤ 1152921504606846976) (k : Nat) (hk : 40 ≤ k) : ∃ r, IsRoot a r ∧ impl_root.f k a = some r ∧ spec_l1Root.f k a = some r ∧
  impl_rootUp.f k a = some (ceilRoot a r) ∧ spec_l2RootUp.f k a = some (ceilRoot a r) := by
 obtain ⟨r, h1, h2⟩ := impl_root_is a ha ha2 k hk
 obtain ⟨s, k1, k2⟩ := spec_root_is a ha ha2 k hk
 obtain rfl := h2.unique k2
 have hb := h2.le (B := 1073741824) (by omega) (by omega)
 have h0 := h2.1
 have hs := sq_bd (a := r) (A := 1073741824) (by omega) (by omega)
 refine ⟨r, h2, h1, k1, ?_, ?_⟩
 ·unfold impl_rootUp.f ceilRoot
  rw [h1]; simp only [Option.bind_some]
  rw [w64 (x := r * r) (by omega) (by omega), w64 (x := r + 1) (by omega) (by omega)]
  split <;> rfl
 ·unfold spec_l2RootUp.f ceilRoot
  rw [k1]; simp only [Option.bind_some]
  rw [w64 (x := r * r) (by omega) (by omega), w64 (x := r + 1) (by omega) (by omega)]
  split <;> rfl
theorem halve_is (q : Int → Option Bool) (p : Int → Bool) (A : Int) (hA : A ≤ 1000000000) (hq : ∀ a, -A ≤ a → a ≤ A → q a = some (p a)) (d : Nat) : ∀ (k m : Nat) (lo hi : Int), -A ≤ lo → lo < hi → hi ≤ A → hi - lo ≤ 2 ^ d → d < k → d < m →
  impl_halve.l0 q k lo hi = some (halveM p m lo hi) := by
 induction d with
 | zero =>
  intro k m lo hi h0 h1 h2 h3 h4 h5
  obtain ⟨k, rfl⟩ : ∃ q, k = q + 1 := ⟨k - 1, by omega⟩
  obtain ⟨m, rfl⟩ : ∃ q, m = q + 1 := ⟨m - 1, by omega⟩
  rw [impl_halve.l0, halveM, w64 (x := hi - lo) (by omega) (by omega), if_neg (by omega), if_neg (by omega)]
 | succ d ih =>
  intro k m lo hi h0 h1 h2 h3 h4 h5
  obtain ⟨k, rfl⟩ : ∃ q, k = q + 1 := ⟨k - 1, by omega⟩
  obtain ⟨m, rfl⟩ : ∃ q, m = q + 1 := ⟨m - 1, by omega⟩
  have hp : (2 : Int) ^ (d + 1) = 2 * 2 ^ d := by rw [Int.pow_succ]; omega
  rw [impl_halve.l0, halveM, w64 (x := hi - lo) (by omega) (by omega)]
  by_cases c : hi - lo > 1
  ·rw [if_pos c, if_pos c, w64 (x := lo + hi) (by omega) (by omega), down_is (by omega) (by omega) (by omega)]
   simp only [Option.bind_some]
   have m1 : lo < (lo + hi) / 2 := by omega
   have m2 : (lo + hi) / 2 < hi := by omega
   have m3 : hi - (lo + hi) / 2 ≤ 2 ^ d := by omega
   have m4 : (lo + hi) / 2 - lo ≤ 2 ^ d := by omega
   generalize (lo + hi) / 2 = x at *
   rw [hq x (by omega) (by omega)]
   simp only [Option.bind_some]
   rw [ih k m x hi (by omega) m2 h2 m3 (by omega) (by omega), ih k m lo x h0 m1 (by omega) m4 (by omega) (by omega)]
   split <;> rfl
  ·rw [if_neg c, if_neg c]
theorem shalve_is (b0 : Bool) (n1 n2 n3 : Int) (b4 : Bool) (p : Int → Bool) (A : Int) (hA : A ≤ 1000000000) (K : Nat) (hq : ∀ k a, K ≤ k → -A ≤ a → a ≤ A → spec_l13Ask_less.f k b0 n1 n2 n3 b4 a = some (p a)) (d : Nat) : ∀ (k m : Nat) (lo hi : Int), -A ≤ lo → lo < hi → hi ≤ A → hi - lo ≤ 2 ^ d → d + 1 + K ≤ k → d < m →
  spec_l13Ask_half.l0 k lo hi b0 n1 n2 n3 b4 = some (halveM p m lo hi) := by
 induction d with
 | zero =>
  intro k m lo hi h0 h1 h2 h3 h4 h5
  obtain ⟨k, rfl⟩ : ∃ q, k = q + 1 := ⟨k - 1, by omega⟩
  obtain ⟨m, rfl⟩ : ∃ q, m = q + 1 := ⟨m - 1, by omega⟩
  rw [spec_l13Ask_half.l0, halveM, w64 (x := hi - lo) (by omega) (by omega), if_neg (by omega), if_neg (by omega)]
 | succ d ih =>
  intro k m lo hi h0 h1 h2 h3 h4 h5
  obtain ⟨k, rfl⟩ : ∃ q, k = q + 1 := ⟨k - 1, by omega⟩
  obtain ⟨m, rfl⟩ : ∃ q, m = q + 1 := ⟨m - 1, by omega⟩
  have hp : (2 : Int) ^ (d + 1) = 2 * 2 ^ d := by rw [Int.pow_succ]; omega
  rw [spec_l13Ask_half.l0, halveM, w64 (x := hi - lo) (by omega) (by omega)]
  by_cases c : hi - lo > 1
  ·rw [if_pos c, if_pos c, w64 (x := lo + hi) (by omega) (by omega), sdown_is (by omega) (by omega) (by omega) (by omega)]
   simp only [Option.bind_some]
   have m1 : lo < (lo + hi) / 2 := by omega
   have m2 : (lo + hi) / 2 < hi := by omega
   have m3 : hi - (lo + hi) / 2 ≤ 2 ^ d := by omega
   have m4 : (lo + hi) / 2 - lo ≤ 2 ^ d := by omega
   generalize (lo + hi) / 2 = x at *
   rw [hq k x (by omega) (by omega) (by omega)]
   simp only [Option.bind_some]
   rw [ih k m x hi (by omega) m2 h2 m3 (by omega) (by omega), ih k m lo x h0 m1 (by omega) m4 (by omega) (by omega)]
   split <;> rfl
  ·rw [if_neg c, if_neg c]
theorem sineBack_is {num : Int} {k : Nat} (hk : 200 ≤ k) :
  impl_sineBack.f k num = some (backM num) ∧ spec_l13Ask_half.f k true num 0 0 false (-32400000) 32400000 = some (halveM (backP num) 40 (-32400000) 32400000) ∧ spec_l13Ask_half.f k true num 0 0 true (-32400000) 32400000 = some (halveM (backQ num) 40 (-32400000) 32400000) := by
 refine ⟨?_, ?_, ?_⟩
 ·unfold impl_sineBack.f
  rw [halve_is (impl_sineBack.q1 k num) (backP num) 32400000 (by omega) (fun a h1 h2 => by
    unfold impl_sineBack.q1 backP
    rw [w64 (x := 2 * a) (by omega) (by omega), (sine_is (h := 2 * a) (by omega) (by omega) (by omega)).1]; rfl) 30 k 40 (-32400000) 32400000 (by omega) (by omega) (by omega) (by omega) (by omega) (by omega),
   halve_is (impl_sineBack.q2 k num) (backQ num) 32400000 (by omega) (fun a h1 h2 => by
    unfold impl_sineBack.q2 backQ
    rw [w64 (x := 2 * a) (by omega) (by omega), (sine_is (h := 2 * a) (by omega) (by omega) (by omega)).1]; rfl) 30 k 40 (-32400000) 32400000 (by omega) (by omega) (by omega) (by omega) (by omega) (by omega)]
  rfl
 ·unfold spec_l13Ask_half.f
  exact shalve_is _ _ _ _ _ (backP num) 32400000 (by omega) 80 (fun k a hk h1 h2 => by
   unfold spec_l13Ask_less.f backP
   rw [if_pos rfl, w64 (x := 2 * a) (by omega) (by omega), (sine_is (h := 2 * a) (by omega) (by omega) (by omega)).2]; rfl) 30 k 40 _ _ (by omega) (by omega) (by omega) (by omega) (by omega) (by omega)
 ·unfold spec_l13Ask_half.f
  exact shalve_is _ _ _ _ _ (backQ num) 32400000 (by omega) 80 (fun k a hk h1 h2 => by
   unfold spec_l13Ask_less.f backQ
   rw [if_pos rfl, w64 (x := 2 * a) (by omega) (by omega), (sine_is (h := 2 * a) (by omega) (by omega) (by omega)).2]; rfl) 30 k 40 _ _ (by omega) (by omega) (by omega) (by omega) (by omega) (by omega)
/-! ### angles between places: both tell the same -/
theorem specBack_is {num : Int} {k : Nat} (hk : 200 ≤ k) (h1 : -1000000000 ≤ num) (h2 : num ≤ 1000000000) : spec_SineBack.f k num = some ((backM num).1, (backM num).2, true) := by
 obtain ⟨a, b, c⟩ := sineBack_is (num := num) hk
 unfold spec_SineBack.f
 simp only [sin_is, Option.bind_some, b, c, h1, h2, and_self, decide_true, if_true]
 rfl
theorem root_is {n : Int} (h0 : 0 ≤ n) (h1 : n ≤ 1000000000) {k : Nat} (hk : 40 ≤ k) : impl_root.f k (1000000000 * n) = some (rootM (1000000000 * n)) ∧ spec_l1Root.f k (1000000000 * n) = some (rootM (1000000000 * n)) ∧
  impl_rootUp.f k (1000000000 * n) = some (ceilM (1000000000 * n)) ∧ spec_l2RootUp.f k (1000000000 * n) = some (ceilM (1000000000 * n)) := by
 obtain ⟨r, i, a, b, c, d⟩ := roots (1000000000 * n) (by omega) (by omega) k hk
 obtain rfl := i.unique (rootM_is (by omega) (by omega))
 exact ⟨a, b, c, d⟩
theorem SpanRoot_is {s : Int × Int} (h : U01 s) {k : Nat} (hk : 50 ≤ k) : impl_SpanRoot.f k s.1 s.2 = some (rootM (1000000000 * s.1), ceilM (1000000000 * s.2), true) ∧ spec_SpanRoot.f k s.1 s.2 = some (rootM (1000000000 * s.1), ceilM (1000000000 * s.2), true) := by
 obtain ⟨k, rfl⟩ : ∃ q, k = q + 1 := ⟨k - 1, by omega⟩
 obtain ⟨h1, h2, h3⟩ := h
 unfold impl_SpanRoot.f spec_SpanRoot.f
 rw [(SpanOk_is s.1 s.2).1, (SpanOk_is s.1 s.2).2]
 have d : decide (-1073000000 ≤ s.1 ∧ s.1 ≤ s.2 ∧ s.2 ≤ 1073000000) = true := decide_eq_true ⟨by omega, h2, by omega⟩
 have d2 : decide (s.1 < 0) = false := decide_eq_false (by omega)
 rw [d, d2]
 simp only [Option.bind_some, if_true]
 rw [impl_SpanRoot.j0, spec_SpanRoot.j0, if_neg (by decide), if_neg (by decide), Int.mul_comm s.1, Int.mul_comm s.2, w64 (x := 1000000000 * s.1) (by omega) (by omega), w64 (x := 1000000000 * s.2) (by omega) (by omega)]
 obtain ⟨a, b, -, -⟩ := root_is h1 (show s.1 ≤ 1000000000 by omega) (k := k) (by omega)
 obtain ⟨-, -, c, e⟩ := root_is (show 0 ≤ s.2 by omega) h3 (k := k) (by omega)
 rw [a, b, c, e]
 simp only [Option.bind_some]
 obtain ⟨r1, r2, r3, -, -, -⟩ := root01 h1 (show s.1 ≤ 1000000000 by omega)
 obtain ⟨-, -, -, q1, q2, q3⟩ := root01 (show 0 ≤ s.2 by omega) h3
 have o := root_order h1 h2 h3
 rw [told_is (by omega) o (by omega), fit_is (by omega) o (by omega)]
 exact ⟨rfl, rfl⟩
def distR (pu pa qu qa : Int) : Int × Int × Bool := if (Up pu ∧ Ar pa) ∧ (Up qu ∧ Ar qa) then ((distOf (squareM pu pa qu qa)).1, (distOf (squareM pu pa qu qa)).2, true) else (0, 0, false)
theorem SpotDist_is (pu pa qu qa : Int) {k : Nat} (hk : 250 ≤ k) : impl_SpotDist.f k pu pa qu qa = some (distR pu pa qu qa) ∧ spec_SpotDist.f k pu pa qu qa = some (distR pu pa qu qa) := by
 obtain ⟨k, rfl⟩ : ∃ q, k = q + 1 := ⟨k - 1, by omega⟩
 unfold impl_SpotDist.f spec_SpotDist.f distR
 rw [(SpotOk_is pu pa).1, (SpotOk_is qu qa).1, (SpotSquare_is pu pa qu qa (by omega)).2]
 unfold squareR
 simp only [Option.bind_some]
 by_cases h1 : Up pu ∧ Ar pa
 ·by_cases h2 : Up qu ∧ Ar qa
  ·simp only [h1, h2, and_self, decide_true, if_true, Bool.not_true]
   rw [impl_SpotDist.j0, if_neg (by decide), square_is h1.1 h2.1 h1.2 h2.2 (by omega)]
   simp only [Option.bind_some]
   have u := (square_parts h1.1 h2.1 pa qa).2.2
   obtain ⟨u1, u2, u3⟩ := u
   rw [(SpanRoot_is ⟨u1, u2, u3⟩ (by omega)).1, (SpanRoot_is ⟨u1, u2, u3⟩ (by omega)).2]
   simp only [Option.bind_some, if_true, mn_is, mx_is]
   obtain ⟨r1, r2, r3, -, -, -⟩ := root01 u1 (show (squareM pu pa qu qa).1 ≤ 1000000000 by omega)
   obtain ⟨-, -, -, q1, q2, q3⟩ := root01 (show 0 ≤ (squareM pu pa qu qa).2 by omega) u3
   have o := root_order u1 u2 u3
   have ec : impl_clip.f (rootM (1000000000 * (squareM pu pa qu qa).1)) (ceilM (1000000000 * (squareM pu pa qu qa).2)) = some (rootM (1000000000 * (squareM pu pa qu qa).1), ceilM (1000000000 * (squareM pu pa qu qa).2)) :=
    (clipU_is (s := (rootM (1000000000 * (squareM pu pa qu qa).1), ceilM (1000000000 * (squareM pu pa qu qa).2))) ⟨r1, o, q3⟩).1
   have m1 : min (rootM (1000000000 * (squareM pu pa qu qa).1)) 1000000000 = rootM (1000000000 * (squareM pu pa qu qa).1) := by omega
   have m2 : min (ceilM (1000000000 * (squareM pu pa qu qa).2)) 1000000000 = ceilM (1000000000 * (squareM pu pa qu qa).2) := by omega
   rw [ec, m1, m2]
   simp only [Option.bind_some]
   rw [(sineBack_is (by omega)).1, (sineBack_is (by omega)).1, specBack_is (by omega) (by omega) (by omega), specBack_is (by omega) (by omega) (by omega)]
   simp only [Option.bind_some]
   obtain ⟨c1, c2, c3, -, -⟩ := back_tells (num := rootM (1000000000 * (squareM pu pa qu qa).1)) (by omega) (by omega)
   obtain ⟨d1, d2, d3, -, -⟩ := back_tells (num := ceilM (1000000000 * (squareM pu pa qu qa).2)) (by omega) (by omega)
   rw [w64 (x := 2 * (backM (rootM (1000000000 * (squareM pu pa qu qa).1))).1) (by omega) (by omega), w64 (x := 2 * (backM (ceilM (1000000000 * (squareM pu pa qu qa).2))).2) (by omega) (by omega)]
   unfold distOf
   exact ⟨rfl, by rw [Int.max_comm]⟩
  ·simp only [h1, h2, and_false, and_self, decide_true, decide_false, if_true, Bool.false_eq_true, if_false, Bool.not_false]
   exact ⟨by rw [impl_SpotDist.j0, if_pos rfl], by first | rfl | trivial⟩
 ·simp only [h1, false_and, decide_false, Bool.false_eq_true, if_false]
  exact ⟨by rw [impl_SpotDist.j0, if_pos rfl], by first | rfl | trivial⟩
theorem FanHas_is {f : Int × Int} {x : Int} (h0 : -129600000 ≤ f.1) (h1 : f.1 ≤ f.2) (h2 : f.2 ≤ 129600000) : impl_FanHas.f f.1 f.2 x = some (decide (f.1 ≤ x ∧ x ≤ f.2)) := by
 unfold impl_FanHas.f impl_fanOk.f impl_aTurn.f
 simp only [in_is, Option.bind_some]
 have a : decide (-129600000 ≤ f.1 ∧ f.1 ≤ 129600000) = true := decide_eq_true ⟨h0, by omega⟩
 have b : decide (-129600000 ≤ f.2 ∧ f.2 ≤ 129600000) = true := decide_eq_true ⟨by omega, h2⟩
 simp only [a, b, if_true, h1, decide_true, Option.bind_some]

end Go.Proofs.Ytmcippkpgmehdaa.M
