import Derived.Test.YtmcippkpgmehdaaP9
import Derived.Test.YtmcippkpgmehdaaMl
import Derived.Test.YtmcippkpgmehdaaNk
namespace Go.Proofs.Ytmcippkpgmehdaa.M
open Go.RowKit Go.Proofs.YtmcippkpgmehdaaW.PrintWords Go.Proofs.YtmcippkpgmehdaaW.PrintLast Go.Proofs.YtmcippkpgmehdaaW.PrintMore
attribute [local go_sem] max2_int min2_int max_two min_two max_three min_three max_four min_four
attribute [local go_sem high] eqA42 eqA29 eqA24
attribute [local go_sem] fld42_0 fld42_1 fld29_0 fld29_1 fld24_0 fld24_1 fld38_0 fld38_1 fld88_0 fld88_1 fld88_2 fld88_3 fld88_4
set_option linter.unusedVariables false
set_option linter.unusedSimpArgs false
/-! ### nearer: both tell the same -/
def lessR (s t : Int × Int) : Int := if s.2 < t.1 then 1 else if s.1 ≥ t.2 then 2 else 3
theorem SureLess_is {s t : Int × Int} (hs : U01 s) (ht : U01 t) {k : Nat} (hk : 1 ≤ k) : impl_SureLess.f k s.1 s.2 t.1 t.2 = some (lessR s t) ∧ spec_SureLess.f k s.1 s.2 t.1 t.2 = some (lessR s t) := by
 obtain ⟨k, rfl⟩ : ∃ q, k = q + 1 := ⟨k - 1, by omega⟩
 obtain ⟨a1, a2, a3⟩ := hs
 obtain ⟨b1, b2, b3⟩ := ht
 unfold impl_SureLess.f spec_SureLess.f lessR
 rw [(SpanOk_is s.1 s.2).1, (SpanOk_is s.1 s.2).2, (SpanOk_is t.1 t.2).1, (SpanOk_is t.1 t.2).2]
 have d1 : decide (-1073000000 ≤ s.1 ∧ s.1 ≤ s.2 ∧ s.2 ≤ 1073000000) = true := decide_eq_true ⟨by omega, a2, by omega⟩
 have d2 : decide (-1073000000 ≤ t.1 ∧ t.1 ≤ t.2 ∧ t.2 ≤ 1073000000) = true := decide_eq_true ⟨by omega, b2, by omega⟩
 rw [d1, d2]
 simp only [Option.bind_some, if_true, Bool.not_true]
 rw [impl_SureLess.j0, spec_SureLess.j0, if_neg (show ¬ (false = true) by decide)]
 by_cases c1 : s.2 < t.1
 ·simp [c1]
 ·by_cases c2 : s.1 ≥ t.2
  ·simp [c1, c2]
  ·simp [c1, c2]
def nearR (fu fa pu pa qu qa : Int) : Int := if Okay fu fa ∧ Okay pu pa ∧ Okay qu qa then (if Same pu pa qu qa then 2 else lessR (squareM fu fa pu pa) (squareM fu fa qu qa)) else 3
theorem SpotNear_is (fu fa pu pa qu qa : Int) {k : Nat} (hk : 200 ≤ k) : impl_SpotNear.f k fu fa pu pa qu qa = some (nearR fu fa pu pa qu qa) ∧ spec_SpotNear.f k fu fa pu pa qu qa = some (nearR fu fa pu pa qu qa) := by
 obtain ⟨k, rfl⟩ : ∃ q, k = q + 1 := ⟨k - 1, by omega⟩
 unfold impl_SpotNear.f spec_SpotNear.f nearR
 rw [(SpotOk_is fu fa).1, (SpotOk_is pu pa).1, (SpotOk_is qu qa).1, (SpotSquare_is fu fa pu pa (by omega)).2, (SpotSquare_is fu fa qu qa (by omega)).2]
 simp only [Option.bind_some]
 unfold squareR
 by_cases h0 : Up fu ∧ Ar fa
 ·have o0 : Okay fu fa := h0
  by_cases h1 : Up pu ∧ Ar pa
  ·have o1 : Okay pu pa := h1
   by_cases h2 : Up qu ∧ Ar qa
   ·have o2 : Okay qu qa := h2
    have up := (square_parts h0.1 h1.1 fa pa).2.2
    have uq := (square_parts h0.1 h2.1 fa qa).2.2
    simp only [h0, h1, h2, o0, o1, o2, and_self, decide_true, if_true, Bool.not_true]
    rw [impl_SpotNear.j0, spec_SpotNear.j0, if_neg (show ¬ (false = true) by decide), (SpotSame_is pu pa qu qa).1, (SpotSame_is pu pa qu qa).2]
    simp only [Option.bind_some, o1, o2, and_self, true_and]
    by_cases s : Same pu pa qu qa
    ·simp [s]
    ·simp only [s, decide_false, Bool.false_eq_true, if_false]
     rw [square_is h0.1 h1.1 h0.2 h1.2 (by omega), square_is h0.1 h2.1 h0.2 h2.2 (by omega)]
     simp only [Option.bind_some]
     rw [(SureLess_is up uq (by omega)).1, (SureLess_is up uq (by omega)).2]
     exact ⟨rfl, rfl⟩
   ·have o2 : ¬ Okay qu qa := h2
    simp only [h0, h1, h2, o0, o1, o2, and_self, and_false, decide_true, decide_false, if_true, if_false, Bool.not_false, Bool.false_eq_true]
    rw [impl_SpotNear.j0, spec_SpotNear.j0, if_pos rfl, if_pos rfl]
    exact ⟨rfl, rfl⟩
  ·have o1 : ¬ Okay pu pa := h1
   simp only [h0, h1, o0, o1, and_false, false_and, decide_true, decide_false, if_true, if_false, Bool.false_eq_true]
   rw [impl_SpotNear.j0, spec_SpotNear.j0, if_pos rfl, if_pos rfl]
   exact ⟨rfl, rfl⟩
 ·have o0 : ¬ Okay fu fa := h0
  simp only [h0, o0, false_and, decide_false, if_false, Bool.false_eq_true]
  rw [impl_SpotNear.j0, spec_SpotNear.j0, if_pos rfl, if_pos rfl]
  exact ⟨rfl, rfl⟩

end Go.Proofs.Ytmcippkpgmehdaa.M
