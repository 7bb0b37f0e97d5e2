import Derived.Test.YtmcippkpgmehdaaP6
import Derived.Test.YtmcippkpgmehdaaMo
import Derived.Test.YtmcippkpgmehdaaNh
namespace Go.Proofs.Ytmcippkpgmehdaa.M
open Go.RowKit Go.Proofs.YtmcippkpgmehdaaW.PrintWords Go.Proofs.YtmcippkpgmehdaaW.PrintLast Go.Proofs.YtmcippkpgmehdaaW.PrintMore
attribute [local go_sem] max2_int min2_int max_two min_two max_three min_three max_four min_four
attribute [local go_sem high] eqA42 eqA29 eqA24
attribute [local go_sem] fld42_0 fld42_1 fld29_0 fld29_1 fld24_0 fld24_1 fld38_0 fld38_1 fld88_0 fld88_1 fld88_2 fld88_3 fld88_4
set_option linter.unusedVariables false
set_option linter.unusedSimpArgs false
/-! ### the same place, nearer: both tell the same -/
instance (a : Int) : Decidable (Pole a) := by unfold Pole; exact inferInstance
instance (a b c d : Int) : Decidable (Same a b c d) := by unfold Same; exact inferInstance
def Okay (u a : Int) : Prop := Up u ∧ Ar a
instance (u a : Int) : Decidable (Okay u a) := by unfold Okay; exact inferInstance
theorem same_sym {pu pa qu qa : Int} : Same pu pa qu qa ↔ Same qu qa pu pa := by
 unfold Same Pole
 constructor <;> (rintro ⟨rfl, h⟩; exact ⟨rfl, by omega⟩)
theorem SpotSame_is (pu pa qu qa : Int) : impl_SpotSame.f pu pa qu qa = some (decide ((Okay pu pa ∧ Okay qu qa) ∧ Same pu pa qu qa)) ∧ spec_SpotSame.f pu pa qu qa = some (decide ((Okay pu pa ∧ Okay qu qa) ∧ Same pu pa qu qa)) := by
 unfold impl_SpotSame.f spec_SpotSame.f spec_l21Pole.f
 rw [(SpotOk_is pu pa).1, (SpotOk_is pu pa).2, (SpotOk_is qu qa).1, (SpotOk_is qu qa).2]
 simp only [Option.bind_some]
 by_cases h1 : Up pu ∧ Ar pa
 ·by_cases h2 : Up qu ∧ Ar qa
  ·have o1 : Okay pu pa := h1
   have o2 : Okay qu qa := h2
   simp only [h1, h2, o1, o2, and_self, decide_true, if_true, true_and]
   by_cases e : pu = qu
   ·subst e
    by_cases e2 : pa = qa
    ·subst e2
     have s : Same pu pa pu pa := ⟨rfl, .inl rfl⟩
     simp [s]
    ·have hu := h1.1.1
     have hu2 := h1.1.2
     rw [w64 (x := -pu) (by omega) (by omega), mx_is]
     simp only [e2, if_true, if_false]
     by_cases s : Same pu pa pu qa
     ·have p := s.2.resolve_left e2
      have m : max pu (-pu) = 32400000 := by unfold Pole at p; omega
      rcases p with p | p
      ·subst p; simp [s, m]
      ·subst p; simp [s, show max (-32400000 : Int) 32400000 = 32400000 by decide]
     ·have p : ¬ Pole pu := fun p => s ⟨rfl, .inr p⟩
      have m : ¬ max pu (-pu) = 32400000 := by unfold Pole at p; omega
      have p1 : ¬ pu = 32400000 := fun x => p (.inl x)
      have p2 : ¬ pu = -32400000 := fun x => p (.inr x)
      simp [s, m, p1, p2]
   ·have s : ¬ Same pu pa qu qa := fun s => e s.1
    simp [e, s]
  ·have o2 : ¬ Okay qu qa := h2
   simp [h1, h2, o2]
 ·have o1 : ¬ Okay pu pa := h1
  simp [h1, o1]

end Go.Proofs.Ytmcippkpgmehdaa.M
