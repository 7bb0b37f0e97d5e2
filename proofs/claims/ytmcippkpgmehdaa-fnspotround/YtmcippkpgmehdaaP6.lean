import Derived.Test.YtmcippkpgmehdaaP4
import Derived.Test.YtmcippkpgmehdaaMi
import Derived.Test.YtmcippkpgmehdaaMj
import Derived.Test.YtmcippkpgmehdaaNg
import Derived.Test.YtmcippkpgmehdaaNi
namespace Go.Proofs.Ytmcippkpgmehdaa.M
open Go.RowKit Go.Proofs.YtmcippkpgmehdaaW.PrintWords Go.Proofs.YtmcippkpgmehdaaW.PrintLast Go.Proofs.YtmcippkpgmehdaaW.PrintMore
attribute [local go_sem] max2_int min2_int max_two min_two max_three min_three max_four min_four
attribute [local go_sem high] eqA42 eqA29 eqA24
attribute [local go_sem] fld42_0 fld42_1 fld29_0 fld29_1 fld24_0 fld24_1 fld38_0 fld38_1 fld88_0 fld88_1 fld88_2 fld88_3 fld88_4
set_option linter.unusedVariables false
set_option linter.unusedSimpArgs false
/-! ### places: both tell the same -/
instance (a : Int) : Decidable (Up a) := by unfold Up; exact inferInstance
instance (a : Int) : Decidable (Ar a) := by unfold Ar; exact inferInstance
theorem SpotOk_is (u a : Int) : impl_SpotOk.f u a = some (decide (Up u ∧ Ar a)) ∧ spec_SpotOk.f u a = some (decide (Up u ∧ Ar a)) := by
 unfold impl_SpotOk.f spec_SpotOk.f Up Ar
 simp only [in_is, sin_is, Option.bind_some]
 by_cases c1 : -32400000 ≤ u ∧ u ≤ 32400000
 ·have e : (0 ≤ a ∧ a ≤ 129599999) ↔ (0 ≤ a ∧ a < 129600000) := by omega
  simp [c1, e]
 ·simp [c1]
theorem clip_is (x y : Int) : impl_clip.f x y = some (clipM (x, y)) ∧ spec_l21Clip.f x y = some (clipM (x, y)) := by
 constructor
 ·unfold impl_clip.f clipM
  simp only [mx_is, mn_is]
 ·unfold spec_l21Clip.f clipM
  simp only [mx_is, mn_is]
  congr 2 <;> omega
theorem clipU_is {s : Int × Int} (h : U01 s) : impl_clip.f s.1 s.2 = some s ∧ spec_l21Clip.f s.1 s.2 = some s := by
 have e : clipM (s.1, s.2) = s := clip_id h
 rw [(clip_is s.1 s.2).1, (clip_is s.1 s.2).2, e]
 exact ⟨rfl, rfl⟩
theorem U01.okM {s : Int × Int} (h : U01 s) : OkM s := ⟨by have := h.1; omega, h.2.1, by have := h.2.2; omega⟩
theorem sine_okM (h : Int) : OkM (sineM h) := by have s := sine_ends h; exact ⟨by omega, by omega, by omega⟩
theorem mulU_is {s t : Int × Int} (hs : U01 s) (ht : U01 t) {k : Nat} (hk : 1 ≤ k) :
  impl_SpanMul.f k s.1 s.2 t.1 t.2 = some ((mulP s t).1, (mulP s t).2, true) ∧ spec_SpanMul.f k s.1 s.2 t.1 t.2 = some ((mulP s t).1, (mulP s t).2, true) := by
 obtain ⟨e, u⟩ := mulP_ok hs ht
 have a := u.1
 have b := u.2.2
 have m := mul_is hs.okM ht.okM (by rw [e]; omega) (by rw [e]; omega) hk
 rw [e] at m
 exact m
theorem mulS_is (h : Int) {k : Nat} (hk : 1 ≤ k) :
  impl_SpanMul.f k (sineM h).1 (sineM h).2 (sineM h).1 (sineM h).2 = some ((sqP h).1, (sqP h).2, true) ∧ spec_SpanMul.f k (sineM h).1 (sineM h).2 (sineM h).1 (sineM h).2 = some ((sqP h).1, (sqP h).2, true) := by
 obtain ⟨e, u⟩ := sq_half h
 have a := u.1
 have b := u.2.2
 have m := mul_is (sine_okM h) (sine_okM h) (by rw [e]; omega) (by rw [e]; omega) hk
 rw [e] at m
 exact m
theorem square_is {pu pa qu qa : Int} (hp : Up pu) (hq : Up qu) (ha : Ar pa) (hb : Ar qa) {k : Nat} (hk : 110 ≤ k) : impl_square.f k pu pa qu qa = some (squareM pu pa qu qa) := by
 obtain ⟨hp1, hp2⟩ := hp
 obtain ⟨hq1, hq2⟩ := hq
 obtain ⟨ha1, ha2⟩ := ha
 obtain ⟨hb1, hb2⟩ := hb
 have ep : 2 * (pu + 32400000) = 2 * pu + 64800000 := by omega
 have eq : 2 * (qu + 32400000) = 2 * qu + 64800000 := by omega
 have cp : sineM (2 * pu + 64800000) = cosM pu := rfl
 have cq : sineM (2 * qu + 64800000) = cosM qu := rfl
 obtain ⟨p1, p2, p3⟩ := square_parts ⟨hp1, hp2⟩ ⟨hq1, hq2⟩ pa qa
 have u1 := (cos_half hp1 hp2).2
 have u2 := (cos_half hq1 hq2).2
 have s1 := (sq_half (qu - pu)).2
 have s2 := (sq_half (qa - pa)).2
 unfold impl_square.f impl_times.f
 rw [w64 (x := qu - pu) (by omega) (by omega), w64 (x := qa - pa) (by omega) (by omega), (sine_is (h := qu - pu) (by omega) (by omega) (by omega)).1, (sine_is (h := qa - pa) (by omega) (by omega) (by omega)).1,
  cosine_is (a := pu) (by omega) (by omega) (by omega), cosine_is (a := qu) (by omega) (by omega) (by omega), ep, eq, cp, cq]
 simp only [Option.bind_some]
 rw [(mulS_is _ (by omega)).1, (mulS_is _ (by omega)).1]
 simp only [Option.bind_some]
 rw [(clipU_is u1).1, (clipU_is u2).1]
 simp only [Option.bind_some]
 rw [(mulU_is u1 u2 (by omega)).1]
 simp only [Option.bind_some]
 rw [(clipU_is p1).1, (clipU_is s2).1]
 simp only [Option.bind_some]
 rw [(mulU_is p1 s2 (by omega)).1, (clipU_is s1).1]
 simp only [Option.bind_some]
 have b1 := p2.1
 have b2 := p2.2.1
 have b3 := p2.2.2
 have c1 := s1.1
 have c2 := s1.2.1
 have c3 := s1.2.2
 rw [w64 (by omega) (by omega), w64 (by omega) (by omega), (clip_is _ _).1]
 rfl
def squareR (pu pa qu qa : Int) : Int × Int × Bool := if (Up pu ∧ Ar pa) ∧ (Up qu ∧ Ar qa) then ((squareM pu pa qu qa).1, (squareM pu pa qu qa).2, true) else (0, 0, false)
theorem SpotSquare_is (pu pa qu qa : Int) {k : Nat} (hk : 120 ≤ k) : impl_SpotSquare.f k pu pa qu qa = some (squareR pu pa qu qa) ∧ spec_SpotSquare.f k pu pa qu qa = some (squareR pu pa qu qa) := by
 obtain ⟨k, rfl⟩ : ∃ q, k = q + 1 := ⟨k - 1, by omega⟩
 unfold impl_SpotSquare.f spec_SpotSquare.f squareR
 rw [(SpotOk_is pu pa).1, (SpotOk_is pu pa).2, (SpotOk_is qu qa).1, (SpotOk_is qu qa).2]
 simp only [Option.bind_some]
 by_cases h1 : Up pu ∧ Ar pa
 ·by_cases h2 : Up qu ∧ Ar qa
  ·simp only [h1, h2, and_self, decide_true, if_true, Bool.not_true]
   obtain ⟨hp, ha⟩ := h1
   obtain ⟨hq, hb⟩ := h2
   constructor
   ·rw [square_is hp hq ha hb (by omega)]; rfl
   ·rw [spec_SpotSquare.j0, if_neg (by decide)]
    obtain ⟨hp1, hp2⟩ := hp
    obtain ⟨hq1, hq2⟩ := hq
    obtain ⟨ha1, ha2⟩ := ha
    obtain ⟨hb1, hb2⟩ := hb
    have cp : sineM (2 * pu + 64800000) = cosM pu := rfl
    have cq : sineM (2 * qu + 64800000) = cosM qu := rfl
    obtain ⟨p1, p2, p3⟩ := square_parts ⟨hp1, hp2⟩ ⟨hq1, hq2⟩ pa qa
    have u1 := (cos_half hp1 hp2).2
    have u2 := (cos_half hq1 hq2).2
    have s1 := (sq_half (qu - pu)).2
    have s2 := (sq_half (qa - pa)).2
    rw [w64 (x := qu - pu) (by omega) (by omega), w64 (x := qa - pa) (by omega) (by omega), w64 (x := 2 * pu) (by omega) (by omega), w64 (x := 2 * qu) (by omega) (by omega), w64 (x := 2 * pu + 64800000) (by omega) (by omega), w64 (x := 2 * qu + 64800000) (by omega) (by omega),
     (sine_is (h := qu - pu) (by omega) (by omega) (by omega)).2, (sine_is (h := qa - pa) (by omega) (by omega) (by omega)).2, (sine_is (h := 2 * pu + 64800000) (by omega) (by omega) (by omega)).2, (sine_is (h := 2 * qu + 64800000) (by omega) (by omega) (by omega)).2, cp, cq]
    simp only [Option.bind_some]
    rw [(mulS_is _ (by omega)).2, (mulS_is _ (by omega)).2]
    simp only [Option.bind_some]
    rw [(clipU_is u1).2, (clipU_is u2).2]
    simp only [Option.bind_some]
    rw [(mulU_is u1 u2 (by omega)).2]
    simp only [Option.bind_some]
    rw [(clipU_is p1).2, (clipU_is s2).2]
    simp only [Option.bind_some]
    rw [(mulU_is p1 s2 (by omega)).2, (clipU_is s1).2]
    simp only [Option.bind_some]
    have b1 := p2.1
    have b2 := p2.2.1
    have b3 := p2.2.2
    have c1 := s1.1
    have c2 := s1.2.1
    have c3 := s1.2.2
    rw [w64 (by omega) (by omega), w64 (by omega) (by omega), (clip_is _ _).2]
    unfold squareM addM
    simp only [Option.bind_some, Int.add_comm (sqP (qu - pu)).1, Int.add_comm (sqP (qu - pu)).2]
  ·simp only [h1, h2, and_false, and_self, decide_true, decide_false, if_true, Bool.false_eq_true, if_false, Bool.not_false]
   exact ⟨by first | rfl | trivial, by rw [spec_SpotSquare.j0, if_pos rfl]⟩
 ·simp only [h1, false_and, decide_false, Bool.false_eq_true, if_false]
  exact ⟨by first | rfl | trivial, by rw [spec_SpotSquare.j0, if_pos rfl]⟩
def farR (u a : Int) : Int × Int × Bool := if Up u ∧ Ar a then (-u, farA a, true) else (0, 0, false)
theorem norm_is {a : Int} (h1 : -1000000000000 ≤ a) (h2 : a ≤ 1000000000000) : spec_l11Norm.f a = some (a % 129600000) := by
 have e := Int.mul_ediv_add_emod a 129600000
 have e2 : 129600000 * (a / 129600000) = a / 129600000 * 129600000 := Int.mul_comm _ _
 unfold spec_l11Norm.f
 rw [sdown_is (by omega) (by omega) (by omega) (by omega)]
 simp only [Option.bind_some]
 rw [w64 (x := a / 129600000 * 129600000) (by omega) (by omega), w64 (by omega) (by omega)]
 congr 1
 omega
theorem SpotFar_is (u a : Int) : impl_SpotFar.f u a = some (farR u a) ∧ spec_SpotFar.f u a = some (farR u a) := by
 unfold impl_SpotFar.f spec_SpotFar.f farR
 rw [(SpotOk_is u a).1, (SpotOk_is u a).2]
 simp only [Option.bind_some]
 by_cases h : Up u ∧ Ar a
 ·simp only [h, and_self, decide_true, if_true]
  obtain ⟨⟨h1, h2⟩, ⟨h3, h4⟩⟩ := h
  rw [w64 (x := a + 64800000) (by omega) (by omega), w64 (x := -u) (by omega) (by omega), modulo_is (by omega) (by omega) (by omega) (by omega), norm_is (by omega) (by omega)]
  exact ⟨by first | rfl | trivial, by first | rfl | trivial⟩
 ·simp only [h, decide_false, Bool.false_eq_true, if_false]
  exact ⟨by first | rfl | trivial, by first | rfl | trivial⟩

end Go.Proofs.Ytmcippkpgmehdaa.M
