import Derived.Test.YtlodpfddimeffaaP2
import Derived.Test.YtlodpfddimeffaaMc
import Derived.Test.YtlodpfddimeffaaNb
namespace Go.Proofs.Ytlodpfddimeffaa.M
open Go.RowKit Go.Proofs.YtlodpfddimeffaaW.PrintWords Go.Proofs.YtlodpfddimeffaaW.PrintLast Go.Proofs.YtlodpfddimeffaaW.PrintMore
attribute [local go_sem] max2_int min2_int max_two min_two max_three min_three max_four min_four
attribute [local go_sem high] eqA31
attribute [local go_sem] fld31_0 fld31_1 fld25_0 fld25_1 fld25_2 fld25_3
set_option linter.unusedVariables false
set_option linter.unusedSimpArgs false
theorem mx_is (a b : Int) : mx a b = max a b := by unfold mx; omega
theorem mn_is (a b : Int) : mn a b = min a b := by unfold mn; omega
theorem in_is (a l h : Int) : impl_in.f a l h = some (decide (l ≤ a ∧ a ≤ h)) := by
 unfold impl_in.f
 by_cases c : l ≤ a
 ·rw [if_pos c]; simp [c]
 ·rw [if_neg c]; simp [c]
theorem sin_is (a l h : Int) : spec_l6In.f a l h = some (decide (l ≤ a ∧ a ≤ h)) := by
 unfold spec_l6In.f
 by_cases c : l ≤ a
 ·rw [if_pos c]; simp [c]
 ·rw [if_neg c]; simp [c]
theorem arc_is {h : Int} (h0 : 0 ≤ h) (h1 : h ≤ 32400000) : impl_arc.f h = some (aL h, aH h) ∧ spec_l12Arc.f h = some (aL h, aH h) := by
 unfold impl_arc.f spec_l12Arc.f
 rw [w64 (x := h * 785398163) (by omega) (by omega), w64 (x := h * 785398164) (by omega) (by omega),
  down_is (by omega) (by omega) (by omega), up_is (by omega) (by omega) (by omega), sdown_is (by omega) (by omega) (by omega) (by omega), sup_is (by omega) (by omega) (by omega) (by omega)]
 exact ⟨rfl, rfl⟩
theorem modulo_is {a b : Int} (hb : 0 < b) (hb2 : b ≤ 1000000000000) (h1 : -1000000000000000 ≤ a) (h2 : a ≤ 1000000000000000) : impl_modulo.f a b = some (a % b) := by
 have e := Int.mul_ediv_add_emod a b
 have e2 : b * (a / b) = a / b * b := Int.mul_comm _ _
 have d := div_bd hb h1 h2
 have r0 := Int.emod_nonneg a (show b ≠ 0 by omega)
 have r1 := Int.emod_lt_of_pos a hb
 unfold impl_modulo.f
 rw [down_is hb (by omega) (by omega)]
 simp only [Option.bind_some]
 generalize a / b * b = u at *
 generalize a / b = v at *
 generalize a % b = r at *
 rw [w64 (x := u) (by omega) (by omega), w64 (by omega) (by omega)]
 congr 1; omega
theorem neg_is {x y : Int} (h1 : -1073000000 ≤ x) (h2 : x ≤ y) (h3 : y ≤ 1073000000) : impl_SpanNeg.f x y = some (-y, -x) ∧ spec_SpanNeg.f x y = some (-y, -x) := by
 unfold impl_SpanNeg.f spec_SpanNeg.f impl_SpanOk.f spec_SpanOk.f
 simp only [in_is, sin_is, Option.bind_some]
 rw [w64 (x := -x) (by omega) (by omega), w64 (x := -y) (by omega) (by omega)]
 have a1 : x ≤ 1073000000 := by omega
 have a2 : -1073000000 ≤ y := by omega
 constructor <;> simp [h1, h2, h3, a1, a2]
theorem small_is {h : Int} (h0 : 0 ≤ h) (h1 : h ≤ 32400000) {k : Nat} (hk : 70 ≤ k) :
  ((impl_row.f k (aL h) (aL h) 2).bind fun bt257 => ((impl_row.f k (aH h) (aH h) 2).bind fun bt259 => (some (mx 0 bt257.1, bt259.2)))) = some (smallM h) ∧ spec_l12Small.f k h = some (smallM h) := by
 obtain ⟨a1, a2, a3, -⟩ := arc_ends h0 h1
 unfold spec_l12Small.f
 rw [(arc_is h0 h1).2]
 simp only [Option.bind_some]
 rw [row_is (f := aL h) (x := aL h) (n := 2) (by omega) (by omega) (by omega) (by omega) (by omega) (by omega) (by omega), row_is (f := aH h) (x := aH h) (n := 2) (by omega) (by omega) (by omega) (by omega) (by omega) (by omega) (by omega),
  srow_is (f := aL h) (x := aL h) (n := 2) (by omega) (by omega) (by omega) (by omega) (by omega) (by omega) (by omega), srow_is (f := aH h) (x := aH h) (n := 2) (by omega) (by omega) (by omega) (by omega) (by omega) (by omega) (by omega)]
 simp only [Option.bind_some, mx_is, smallM]
 exact ⟨trivial, by rw [Int.max_comm]⟩
theorem near_is {h : Int} (h0 : 0 ≤ h) (h1 : h ≤ 32400000) {k : Nat} (hk : 70 ≤ k) :
  ((impl_row.f k 1000000000 (aH h) 1).bind fun bt264 => ((impl_row.f k 1000000000 (aL h) 1).bind fun bt266 => (some (bt264.1, mn 1000000000 bt266.2)))) = some (nearM h) ∧ spec_l12Near.f k h = some (nearM h) := by
 obtain ⟨a1, a2, a3, -⟩ := arc_ends h0 h1
 unfold spec_l12Near.f
 rw [(arc_is h0 h1).2]
 simp only [Option.bind_some]
 rw [row_is (f := 1000000000) (x := aL h) (n := 1) (by omega) (by omega) (by omega) (by omega) (by omega) (by omega) (by omega), row_is (f := 1000000000) (x := aH h) (n := 1) (by omega) (by omega) (by omega) (by omega) (by omega) (by omega) (by omega),
  srow_is (f := 1000000000) (x := aL h) (n := 1) (by omega) (by omega) (by omega) (by omega) (by omega) (by omega) (by omega), srow_is (f := 1000000000) (x := aH h) (n := 1) (by omega) (by omega) (by omega) (by omega) (by omega) (by omega) (by omega)]
 simp only [Option.bind_some, mn_is, nearM]
 exact ⟨trivial, by rw [Int.min_comm]⟩
theorem quart_is {h : Int} (h0 : 0 ≤ h) (h1 : h ≤ 64800000) {k : Nat} (hk : 70 ≤ k) : impl_sine.f (k + 1) h = some (quartM h) ∧ spec_l12Quart.f k h = some (quartM h) := by
 have e : h % 259200000 = h := by omega
 unfold spec_l12Quart.f quartM
 rw [impl_sine.f, modulo_is (by omega) (by omega) (by omega) (by omega)]
 simp only [Option.bind_some]
 rw [e, if_neg (show ¬ h ≥ 129600000 by omega), if_neg (show ¬ h > 64800000 by omega)]
 by_cases a1 : h = 0
 ·rw [if_pos a1, if_pos a1, if_pos a1]; exact ⟨rfl, rfl⟩
 rw [if_neg a1, if_neg a1, if_neg a1]
 by_cases a2 : h = 21600000
 ·rw [if_pos a2, if_pos a2, if_pos a2]; exact ⟨rfl, rfl⟩
 rw [if_neg a2, if_neg a2, if_neg a2]
 by_cases a3 : h = 64800000
 ·rw [if_pos a3, if_pos a3, if_pos a3]; exact ⟨rfl, rfl⟩
 rw [if_neg a3, if_neg a3, if_neg a3]
 by_cases a4 : h ≤ 32400000
 ·rw [if_pos a4, if_pos a4, if_pos a4, (arc_is h0 a4).1, (small_is h0 a4 hk).2]
  exact ⟨(small_is h0 a4 hk).1, rfl⟩
 ·rw [if_neg a4, if_neg a4, if_neg a4, w64 (x := 64800000 - h) (by omega) (by omega), (arc_is (h := 64800000 - h) (by omega) (by omega)).1, (near_is (h := 64800000 - h) (by omega) (by omega) hk).2]
  exact ⟨(near_is (h := 64800000 - h) (by omega) (by omega) hk).1, rfl⟩
theorem half_is {h : Int} (h0 : 0 ≤ h) (h1 : h < 129600000) {k : Nat} (hk : 70 ≤ k) : impl_sine.f (k + 1 + 1) h = some (halfM h) ∧
  (if h > 64800000 then spec_l12Quart.f k (129600000 - h) else spec_l12Quart.f k h) = some (halfM h) := by
 unfold halfM
 by_cases a : 64800000 < h
 ·rw [if_pos a, if_pos a, impl_sine.f, modulo_is (by omega) (by omega) (by omega) (by omega)]
  have e : h % 259200000 = h := by omega
  simp only [Option.bind_some]
  rw [e, if_neg (show ¬ h ≥ 129600000 by omega), if_pos (show h > 64800000 by omega), w64 (x := 129600000 - h) (by omega) (by omega), (quart_is (h := 129600000 - h) (by omega) (by omega) hk).1, (quart_is (h := 129600000 - h) (by omega) (by omega) hk).2]
  exact ⟨rfl, rfl⟩
 ·rw [if_neg a, if_neg (by omega), (quart_is h0 (by omega) (k := k + 1) (by omega)).1, (quart_is h0 (by omega) hk).2]
  exact ⟨rfl, rfl⟩
/-- Both sines are the sine. -/
theorem sine_is {h : Int} (h0 : -1000000000000000 ≤ h) (h1 : h ≤ 1000000000000000) {k : Nat} (hk : 80 ≤ k) : impl_sine.f k h = some (sineM h) ∧ spec_l12Sine.f k h = some (sineM h) := by
 obtain ⟨k, rfl⟩ : ∃ q, k = q + 1 + 1 + 1 := ⟨k - 3, by omega⟩
 have r0 := Int.emod_nonneg h (show (259200000 : Int) ≠ 0 by omega)
 have r1 := Int.emod_lt_of_pos h (show (0 : Int) < 259200000 by omega)
 have ed : h - h / 259200000 * 259200000 = h % 259200000 := by omega
 unfold sineM
 constructor
 ·rw [impl_sine.f, modulo_is (by omega) (by omega) (by omega) (by omega)]
  simp only [Option.bind_some]
  generalize h % 259200000 = r at *
  by_cases a : 129600000 ≤ r
  ·rw [if_pos a, if_pos (show r ≥ 129600000 by omega), w64 (x := r - 129600000) (by omega) (by omega), (half_is (h := r - 129600000) (by omega) (by omega) (k := k) (by omega)).1]
   obtain ⟨b1, b2, b3, -, -⟩ := half_ends (h := r - 129600000) (by omega) (by omega)
   simp only [Option.bind_some]
   rw [(neg_is (x := (halfM (r - 129600000)).1) (y := (halfM (r - 129600000)).2) (by omega) (by omega) (by omega)).1]
   rfl
  ·rw [if_neg a, if_neg (show ¬ r ≥ 129600000 by omega)]
   have q := (half_is (h := r) (by omega) (by omega) (k := k + 1) (by omega)).1
   rw [impl_sine.f, modulo_is (by omega) (by omega) (by omega) (by omega)] at q
   have e : r % 259200000 = r := by omega
   simp only [Option.bind_some] at q
   rw [e, if_neg (show ¬ r ≥ 129600000 by omega)] at q
   exact q
 ·rw [spec_l12Sine.f, sdown_is (by omega) (by omega) (by omega) (by omega)]
  simp only [Option.bind_some]
  rw [w64 (x := h / 259200000 * 259200000) (by omega) (by omega), w64 (x := h - h / 259200000 * 259200000) (by omega) (by omega), ed]
  generalize h % 259200000 = r at *
  by_cases a : 129600000 ≤ r
  ·have e : (r - 129600000) % 259200000 = r - 129600000 := by omega
   have ed2 : r - 129600000 - (r - 129600000) / 259200000 * 259200000 = r - 129600000 := by omega
   have q := (half_is (h := r - 129600000) (by omega) (by omega) (k := k + 1) (by omega)).2
   have q2 : spec_l12Sine.f (k + 1 + 1) (r - 129600000) = some (halfM (r - 129600000)) := by
    rw [spec_l12Sine.f, sdown_is (by omega) (by omega) (by omega) (by omega)]
    simp only [Option.bind_some]
    rw [w64 (x := (r - 129600000) / 259200000 * 259200000) (by omega) (by omega), w64 (x := r - 129600000 - (r - 129600000) / 259200000 * 259200000) (by omega) (by omega), ed2,
     if_neg (show ¬ r - 129600000 ≥ 129600000 by omega), w64 (x := 129600000 - (r - 129600000)) (by omega) (by omega)]
    by_cases c : r - 129600000 > 64800000
    ·rw [if_pos c] at q ⊢
     rw [q]; rfl
    ·rw [if_neg c] at q ⊢
     rw [q]; rfl
   rw [if_pos a, if_pos (show r ≥ 129600000 by omega), w64 (x := r - 129600000) (by omega) (by omega), q2]
   obtain ⟨b1, b2, b3, -, -⟩ := half_ends (h := r - 129600000) (by omega) (by omega)
   simp only [Option.bind_some]
   rw [(neg_is (x := (halfM (r - 129600000)).1) (y := (halfM (r - 129600000)).2) (by omega) (by omega) (by omega)).2]
   rfl
  ·rw [if_neg a, if_neg (show ¬ r ≥ 129600000 by omega), w64 (x := 129600000 - r) (by omega) (by omega)]
   have q := (half_is (h := r) (by omega) (by omega) (k := k + 1 + 1) (by omega)).2
   by_cases c : r > 64800000
   ·rw [if_pos c] at q ⊢
    rw [q]; rfl
   ·rw [if_neg c] at q ⊢
    rw [q]; rfl

end Go.Proofs.Ytlodpfddimeffaa.M
