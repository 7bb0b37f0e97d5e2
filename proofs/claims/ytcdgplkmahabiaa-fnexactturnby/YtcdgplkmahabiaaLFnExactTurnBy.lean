import Derived.Test.YtcdgplkmahabiaaP6
import Derived.Test.YtcdgplkmahabiaaMk
namespace Go.Proofs.Ytcdgplkmahabiaa.M
open Go.RowKit Go.Proofs.YtcdgplkmahabiaaW.PrintWords Go.Proofs.YtcdgplkmahabiaaW.PrintLast Go.Proofs.YtcdgplkmahabiaaW.PrintMore
attribute [local go_sem] max2_int min2_int max_two min_two max_three min_three max_four min_four
attribute [local go_sem high] eqA23 eqA30
attribute [local go_sem] fld23_0 fld23_1 fld30_0 fld30_1 fld55_0 fld55_1 fld55_2 fld55_3 fld55_4
set_option linter.unusedVariables false
set_option linter.unusedSimpArgs false
set_option maxHeartbeats 2000000 in
set_option maxRecDepth 100000 in
theorem FnExactTurnBy_ok (k : Nat) (a b c p q x y : Int) (w : World) (q0 : spec_TurnBy.f k a b c = some (p, q, x, y, true)) (q1 : impl_TurnBy.f k a b c = some (p, q, x, y, true))
    (q2 : laws_eqSpan.f p q p q = some true) (q3 : laws_eqSpan.f x y x y = some true) :
    Calls Try.prog 3 #[.int .i64 a, .int .i64 b, .int .i64 c] w fun e w' => e = .returned (.bool true) ∧ Below w.heap.size w w' := by
  have hu_Span := Try.underlying23
  have Q0 := Aside0.mk q0
  have Q1 := Aside0.mk q1
  have Q2 := Aside0.mk q2
  have Q3 := Aside0.mk q3
  clear q0 q1 q2 q3
  have HB := Bl.refl w
  go_enter Try.func3, Try.ntmps3
  go_wp2_with (first
    | (go_at_call 15; (with_reducible refine (spec_TurnBy.calls k a b c p q x y true _ Q0.out).mono ?_); rintro e w1 ⟨rfl, hb1⟩; replace HB := Bl.call hb1 HB)
    | (go_at_call 16; (with_reducible refine (impl_TurnBy.calls k a b c p q x y true _ Q1.out).mono ?_); rintro e w2 ⟨rfl, hb2⟩; replace HB := Bl.call hb2 ((HB.alloc _).alloc _); obtain ⟨hc2, hf2⟩ := bcell hb2; have hx2 : w1.heap.size + 1 < w2.heap.size := (by have := hb2.size; simp at this; omega); have hz2 : w1.heap.size < w2.heap.size := (by omega))
    | (go_at_call 17; (with_reducible refine (laws_eqSpan.calls p q p q true _ Q2.out).mono ?_); rintro e w3 ⟨rfl, hb3⟩; replace HB := Bl.call hb3 ((HB.alloc _).alloc _); obtain ⟨hc3, hf3⟩ := bcell hb3; have hx3 : w2.heap.size + 1 < w3.heap.size := (by have := hb3.size; simp at this; omega); have hz3 : w2.heap.size < w3.heap.size := (by omega); have hx4 : w1.heap.size + 1 < w3.heap.size := (by omega); have hz4 : w1.heap.size < w3.heap.size := (by omega))
    | (go_at_call 17; (with_reducible refine (laws_eqSpan.calls x y x y true _ Q3.out).mono ?_); rintro e w4 ⟨rfl, hb4⟩; replace HB := Bl.call hb4 HB))
  go_ret
  exact ⟨rfl, HB.out⟩
set_option maxHeartbeats 2000000 in
set_option maxRecDepth 100000 in
theorem FnExactTurnBy_bad (k : Nat) (a b c : Int) (w : World) (q0 : spec_TurnBy.f k a b c = some (0, 0, 0, 0, false)) (q1 : impl_TurnBy.f k a b c = some (0, 0, 0, 0, false))
    (q2 : laws_eqSpan.f 0 0 0 0 = some true) (q3 : laws_eqSpan.f 0 0 0 0 = some true) :
    Calls Try.prog 3 #[.int .i64 a, .int .i64 b, .int .i64 c] w fun e w' => e = .returned (.bool true) ∧ Below w.heap.size w w' := by
  have hu_Span := Try.underlying23
  have Q0 := Aside0.mk q0
  have Q1 := Aside0.mk q1
  have Q2 := Aside0.mk q2
  have Q3 := Aside0.mk q3
  clear q0 q1 q2 q3
  have HB := Bl.refl w
  go_enter Try.func3, Try.ntmps3
  go_wp2_with (first
    | (go_at_call 15; (with_reducible refine (spec_TurnBy.calls k a b c 0 0 0 0 false _ Q0.out).mono ?_); rintro e w1 ⟨rfl, hb1⟩; replace HB := Bl.call hb1 HB)
    | (go_at_call 16; (with_reducible refine (impl_TurnBy.calls k a b c 0 0 0 0 false _ Q1.out).mono ?_); rintro e w2 ⟨rfl, hb2⟩; replace HB := Bl.call hb2 ((HB.alloc _).alloc _); obtain ⟨hc2, hf2⟩ := bcell hb2; have hx2 : w1.heap.size + 1 < w2.heap.size := (by have := hb2.size; simp at this; omega); have hz2 : w1.heap.size < w2.heap.size := (by omega))
    | (go_at_call 17; (with_reducible refine (laws_eqSpan.calls 0 0 0 0 true _ Q2.out).mono ?_); rintro e w3 ⟨rfl, hb3⟩; replace HB := Bl.call hb3 ((HB.alloc _).alloc _); obtain ⟨hc3, hf3⟩ := bcell hb3; have hx3 : w2.heap.size + 1 < w3.heap.size := (by have := hb3.size; simp at this; omega); have hz3 : w2.heap.size < w3.heap.size := (by omega); have hx4 : w1.heap.size + 1 < w3.heap.size := (by omega); have hz4 : w1.heap.size < w3.heap.size := (by omega))
    | (go_at_call 17; (with_reducible refine (laws_eqSpan.calls 0 0 0 0 true _ Q3.out).mono ?_); rintro e w4 ⟨rfl, hb4⟩; replace HB := Bl.call hb4 HB))
  go_ret
  exact ⟨rfl, HB.out⟩
theorem FnExactTurnBy_true (a b c : Int) (w : World) (_ : (Lit.int .i64 a).wf = true) (_ : (Lit.int .i64 b).wf = true) (_ : (Lit.int .i64 c).wf = true) :
    Calls Try.prog 3 #[.int .i64 a, .int .i64 b, .int .i64 c] w fun e w' => e = .returned (.bool true) ∧ Below w.heap.size w w' := by
  obtain ⟨i1, i2⟩ := TurnBy_is (u := a) (r := b) (a := c) (k := 300) (by omega)
  have e (p q : Int) : laws_eqSpan.f p q p q = some true := by unfold laws_eqSpan.f; rw [if_pos rfl, if_pos rfl]
  by_cases hin : turnOk a b c
  · rw [if_pos hin] at i1 i2
    exact FnExactTurnBy_ok 300 a b c _ _ _ _ w i2 i1 (e _ _) (e _ _)
  · rw [if_neg hin] at i1 i2
    exact FnExactTurnBy_bad 300 a b c w i2 i1 (e _ _) (e _ _)

end Go.Proofs.Ytcdgplkmahabiaa.M
