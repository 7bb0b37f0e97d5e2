import Derived.Test.YtmcippkpgmehdaaM0
import Derived.Test.YtmcippkpgmehdaaMa
namespace Go.Proofs.Ytmcippkpgmehdaa.M
open Go.RowKit Go.Proofs.YtmcippkpgmehdaaW.PrintWords Go.Proofs.YtmcippkpgmehdaaW.PrintLast Go.Proofs.YtmcippkpgmehdaaW.PrintMore
attribute [local go_sem] max2_int min2_int max_two min_two max_three min_three max_four min_four
attribute [local go_sem high] eqA42 eqA29 eqA24
attribute [local go_sem] fld42_0 fld42_1 fld29_0 fld29_1 fld24_0 fld24_1 fld38_0 fld38_1 fld88_0 fld88_1 fld88_2 fld88_3 fld88_4
set_option linter.unusedVariables false
set_option linter.unusedSimpArgs false

/-! ### impl_divides: function 67 -/
def impl_divides.f (a0 : Int) (a1 : Int) : Option (Bool) := (impl_in.f a0 (-1152921504606846976) 1152921504606846976).bind fun t435 => (if t435 = true then ((impl_in.f a1 1 1152921504606846976).bind fun t436 => (some t436)) else (some false))
set_option maxHeartbeats 8000000 in
set_option maxRecDepth 100000 in
theorem impl_divides.calls (a0 : Int) (a1 : Int) (r : Bool) (w : World) (h : impl_divides.f a0 a1 = some r) :
  Calls Try.prog 67 #[.int .i64 a0, .int .i64 a1] w fun e w' => e = .returned (.bool r) ∧ Drawn0 w w' := by
 have H : ((impl_in.f a0 (-1152921504606846976) 1152921504606846976).bind fun t435 => (if t435 = true then ((impl_in.f a1 1 1152921504606846976).bind fun t436 => (some t436)) else (some false))) = some r := h
 clear h
 replace H := Option.bind_eq_some_iff.mp H
 obtain ⟨t435, A30, H⟩ := H
 try dsimp only at H
 have A3 := Aside0.mk A30
 clear A30
 by_cases c4 : t435 = true
 ·subst c4
  have H1 : ((impl_in.f a1 1 1152921504606846976).bind fun t436 => (some t436)) = some r := by rw [if_pos rfl] at H; exact H
  clear H
  have H := H1
  clear H1
  replace H := Option.bind_eq_some_iff.mp H
  obtain ⟨t436, A50, H⟩ := H
  try dsimp only at H
  have A5 := Aside0.mk A50
  clear A50
  obtain rfl := Option.some.inj H
  go_enter Try.func67, Try.ntmps67
  go_wp2_with (first | ((with_reducible refine gate_callee (f := 50) rfl ?_); refine gL 6 Try.func50 #[.int .i64 a0, .int .i64 (-1152921504606846976), .int .i64 1152921504606846976] ?_; (with_reducible refine (impl_in.calls a0 (-1152921504606846976) 1152921504606846976 true _ A3.out).mono ?_); rintro e w' ⟨rfl, ⟨nd, rfl⟩⟩; refine ⟨_, rfl, ?_⟩) | (go_at_call 50; (with_reducible refine (impl_in.calls a1 1 1152921504606846976 t436 _ A5.out).mono ?_); rintro e w' ⟨rfl, ⟨nd, rfl⟩⟩))
  go_ret
  exact ⟨by first | rfl | (simp; done) | (simp [*]; done), by repeat (first | exact Drawn0.refl _ | apply Drawn0.step)⟩
 ·replace c4 := Bool.eq_false_iff.mpr c4
  subst c4
  have H1 : (some false) = some r := by rw [if_neg (show ¬ (false = true) by decide)] at H; exact H
  clear H
  have H := H1
  clear H1
  obtain rfl := Option.some.inj H
  go_enter Try.func67, Try.ntmps67
  go_wp2_with (first | ((with_reducible refine gate_callee (f := 50) rfl ?_); refine gL 6 Try.func50 #[.int .i64 a0, .int .i64 (-1152921504606846976), .int .i64 1152921504606846976] ?_; (with_reducible refine (impl_in.calls a0 (-1152921504606846976) 1152921504606846976 false _ A3.out).mono ?_); rintro e w' ⟨rfl, ⟨nd, rfl⟩⟩; refine ⟨_, rfl, ?_⟩))
  go_ret
  exact ⟨by first | rfl | (simp; done) | (simp [*]; done), by repeat (first | exact Drawn0.refl _ | apply Drawn0.step)⟩


/-! ### impl_round: function 68 -/
def impl_round.f (a0 : Int) (a1 : Int) (a2 : Int) : Option (Int) := (impl_down.f a0 a1).bind fun t437 => (if a2 = 2 then ((impl_up.f a0 a1).bind fun t438 => (some t438)) else (if a2 = 3 then (if a1 = 0 then (none) else (some (wrap64 (Int.tdiv a0 a1)))) else (if a2 = 4 then (if (wrap64 (a0 - (wrap64 (t437 * a1)))) > (wrap64 (a1 - (wrap64 (a0 - (wrap64 (t437 * a1)))))) then (some (wrap64 (t437 + 1))) else (if (wrap64 (a0 - (wrap64 (t437 * a1)))) = (wrap64 (a1 - (wrap64 (a0 - (wrap64 (t437 * a1)))))) then (if (Int.tmod t437 2) = 0 then (some t437) else (some (wrap64 (t437 + 1)))) else (some t437))) else (some t437))))
set_option maxHeartbeats 8000000 in
set_option maxRecDepth 100000 in
theorem impl_round.calls (a0 : Int) (a1 : Int) (a2 : Int) (r : Int) (w : World) (h : impl_round.f a0 a1 a2 = some r) :
  Calls Try.prog 68 #[.int .i64 a0, .int .i64 a1, .int .i64 a2] w fun e w' => e = .returned (.int .i64 r) ∧ Drawn0 w w' := by
 have H : ((impl_down.f a0 a1).bind fun t437 => (if a2 = 2 then ((impl_up.f a0 a1).bind fun t438 => (some t438)) else (if a2 = 3 then (if a1 = 0 then (none) else (some (wrap64 (Int.tdiv a0 a1)))) else (if a2 = 4 then (if (wrap64 (a0 - (wrap64 (t437 * a1)))) > (wrap64 (a1 - (wrap64 (a0 - (wrap64 (t437 * a1)))))) then (some (wrap64 (t437 + 1))) else (if (wrap64 (a0 - (wrap64 (t437 * a1)))) = (wrap64 (a1 - (wrap64 (a0 - (wrap64 (t437 * a1)))))) then (if (Int.tmod t437 2) = 0 then (some t437) else (some (wrap64 (t437 + 1)))) else (some t437))) else (some t437))))) = some r := h
 clear h
 replace H := Option.bind_eq_some_iff.mp H
 obtain ⟨t437, A40, H⟩ := H
 try dsimp only at H
 have A4 := Aside0.mk A40
 clear A40
 by_cases c5 : a2 = 2
 ·rw [if_pos c5] at H
  have c5b0 : (a2 == 2) = true := beq_iff_eq.mpr c5
  have c5b1 : (a2 != 2) = false := bne_eq_false_iff_eq.mpr c5
  clear c5
  replace H := Option.bind_eq_some_iff.mp H
  obtain ⟨t438, A60, H⟩ := H
  try dsimp only at H
  have A6 := Aside0.mk A60
  clear A60
  obtain rfl := Option.some.inj H
  go_enter Try.func68, Try.ntmps68
  go_wp2_with (first | ((with_reducible refine gate_callee (f := 71) rfl ?_); refine gL 11 Try.func71 #[.int .i64 a0, .int .i64 a1] ?_; (with_reducible refine (impl_down.calls a0 a1 t437 _ A4.out).mono ?_); rintro e w' ⟨rfl, ⟨nd, rfl⟩⟩; refine ⟨_, rfl, ?_⟩) | ((with_reducible refine gate_callee (f := 96) rfl ?_); refine gL 17 Try.func96 #[.int .i64 a0, .int .i64 a1] ?_; (with_reducible refine (impl_up.calls a0 a1 t438 _ A6.out).mono ?_); rintro e w' ⟨rfl, ⟨nd, rfl⟩⟩; refine ⟨_, rfl, ?_⟩))
  go_ret
  exact ⟨by first | rfl | (simp; done) | (simp [*]; done), by repeat (first | exact Drawn0.refl _ | apply Drawn0.step)⟩
 ·rw [if_neg c5] at H
  have c5b0 : (a2 == 2) = false := beq_eq_false_iff_ne.mpr c5
  have c5b1 : (a2 != 2) = true := bne_iff_ne.mpr c5
  by_cases c7 : a2 = 3
  ·rw [if_pos c7] at H
   have c7b0 : (a2 == 3) = true := beq_iff_eq.mpr c7
   have c7b1 : (a2 != 3) = false := bne_eq_false_iff_eq.mpr c7
   clear c7
   by_cases c8 : a1 = 0
   ·rw [if_pos c8] at H
    exact absurd H (by simp)
   ·rw [if_neg c8] at H
    have c8b0 : (a1 == 0) = false := beq_eq_false_iff_ne.mpr c8
    have c8b1 : (a1 != 0) = true := bne_iff_ne.mpr c8
    obtain rfl := Option.some.inj H
    go_enter Try.func68, Try.ntmps68
    go_wp2_with (first | ((with_reducible refine gate_callee (f := 71) rfl ?_); refine gL 11 Try.func71 #[.int .i64 a0, .int .i64 a1] ?_; (with_reducible refine (impl_down.calls a0 a1 t437 _ A4.out).mono ?_); rintro e w' ⟨rfl, ⟨nd, rfl⟩⟩; refine ⟨_, rfl, ?_⟩))
    go_ret
    exact ⟨by first | rfl | (simp; done) | (simp [*]; done), by repeat (first | exact Drawn0.refl _ | apply Drawn0.step)⟩
  ·rw [if_neg c7] at H
   have c7b0 : (a2 == 3) = false := beq_eq_false_iff_ne.mpr c7
   have c7b1 : (a2 != 3) = true := bne_iff_ne.mpr c7
   by_cases c9 : a2 = 4
   ·rw [if_pos c9] at H
    have c9b0 : (a2 == 4) = true := beq_iff_eq.mpr c9
    have c9b1 : (a2 != 4) = false := bne_eq_false_iff_eq.mpr c9
    clear c9
    by_cases c10 : (wrap64 (a0 - (wrap64 (t437 * a1)))) > (wrap64 (a1 - (wrap64 (a0 - (wrap64 (t437 * a1))))))
    ·rw [if_pos c10] at H
     have c10b0 : decide ((wrap64 (a1 - (wrap64 (a0 - (wrap64 (t437 * a1)))))) < (wrap64 (a0 - (wrap64 (t437 * a1))))) = true := decide_eq_true c10
     clear c10
     obtain rfl := Option.some.inj H
     go_enter Try.func68, Try.ntmps68
     go_wp2_with (first | ((with_reducible refine gate_callee (f := 71) rfl ?_); refine gL 11 Try.func71 #[.int .i64 a0, .int .i64 a1] ?_; (with_reducible refine (impl_down.calls a0 a1 t437 _ A4.out).mono ?_); rintro e w' ⟨rfl, ⟨nd, rfl⟩⟩; refine ⟨_, rfl, ?_⟩))
     go_ret
     exact ⟨by first | rfl | (simp; done) | (simp [*]; done), by repeat (first | exact Drawn0.refl _ | apply Drawn0.step)⟩
    ·rw [if_neg c10] at H
     have c10b0 : decide ((wrap64 (a1 - (wrap64 (a0 - (wrap64 (t437 * a1)))))) < (wrap64 (a0 - (wrap64 (t437 * a1))))) = false := decide_eq_false c10
     clear c10
     by_cases c11 : (wrap64 (a0 - (wrap64 (t437 * a1)))) = (wrap64 (a1 - (wrap64 (a0 - (wrap64 (t437 * a1))))))
     ·rw [if_pos c11] at H
      have c11b0 : ((wrap64 (a0 - (wrap64 (t437 * a1)))) == (wrap64 (a1 - (wrap64 (a0 - (wrap64 (t437 * a1))))))) = true := beq_iff_eq.mpr c11
      have c11b1 : ((wrap64 (a0 - (wrap64 (t437 * a1)))) != (wrap64 (a1 - (wrap64 (a0 - (wrap64 (t437 * a1))))))) = false := bne_eq_false_iff_eq.mpr c11
      clear c11
      by_cases c12 : (Int.tmod t437 2) = 0
      ·rw [if_pos c12] at H
       have c12b0 : ((Int.tmod t437 2) == 0) = true := beq_iff_eq.mpr c12
       have c12b1 : ((Int.tmod t437 2) != 0) = false := bne_eq_false_iff_eq.mpr c12
       clear c12
       obtain rfl := Option.some.inj H
       go_enter Try.func68, Try.ntmps68
       go_wp2_with (first | ((with_reducible refine gate_callee (f := 71) rfl ?_); refine gL 11 Try.func71 #[.int .i64 a0, .int .i64 a1] ?_; (with_reducible refine (impl_down.calls a0 a1 t437 _ A4.out).mono ?_); rintro e w' ⟨rfl, ⟨nd, rfl⟩⟩; refine ⟨_, rfl, ?_⟩))
       go_ret
       exact ⟨by first | rfl | (simp; done) | (simp [*]; done), by repeat (first | exact Drawn0.refl _ | apply Drawn0.step)⟩
      ·rw [if_neg c12] at H
       have c12b0 : ((Int.tmod t437 2) == 0) = false := beq_eq_false_iff_ne.mpr c12
       have c12b1 : ((Int.tmod t437 2) != 0) = true := bne_iff_ne.mpr c12
       obtain rfl := Option.some.inj H
       go_enter Try.func68, Try.ntmps68
       go_wp2_with (first | ((with_reducible refine gate_callee (f := 71) rfl ?_); refine gL 11 Try.func71 #[.int .i64 a0, .int .i64 a1] ?_; (with_reducible refine (impl_down.calls a0 a1 t437 _ A4.out).mono ?_); rintro e w' ⟨rfl, ⟨nd, rfl⟩⟩; refine ⟨_, rfl, ?_⟩))
       go_ret
       exact ⟨by first | rfl | (simp; done) | (simp [*]; done), by repeat (first | exact Drawn0.refl _ | apply Drawn0.step)⟩
     ·rw [if_neg c11] at H
      have c11b0 : ((wrap64 (a0 - (wrap64 (t437 * a1)))) == (wrap64 (a1 - (wrap64 (a0 - (wrap64 (t437 * a1))))))) = false := beq_eq_false_iff_ne.mpr c11
      have c11b1 : ((wrap64 (a0 - (wrap64 (t437 * a1)))) != (wrap64 (a1 - (wrap64 (a0 - (wrap64 (t437 * a1))))))) = true := bne_iff_ne.mpr c11
      obtain rfl := Option.some.inj H
      go_enter Try.func68, Try.ntmps68
      go_wp2_with (first | ((with_reducible refine gate_callee (f := 71) rfl ?_); refine gL 11 Try.func71 #[.int .i64 a0, .int .i64 a1] ?_; (with_reducible refine (impl_down.calls a0 a1 t437 _ A4.out).mono ?_); rintro e w' ⟨rfl, ⟨nd, rfl⟩⟩; refine ⟨_, rfl, ?_⟩))
      go_ret
      exact ⟨by first | rfl | (simp; done) | (simp [*]; done), by repeat (first | exact Drawn0.refl _ | apply Drawn0.step)⟩
   ·rw [if_neg c9] at H
    have c9b0 : (a2 == 4) = false := beq_eq_false_iff_ne.mpr c9
    have c9b1 : (a2 != 4) = true := bne_iff_ne.mpr c9
    obtain rfl := Option.some.inj H
    go_enter Try.func68, Try.ntmps68
    go_wp2_with (first | ((with_reducible refine gate_callee (f := 71) rfl ?_); refine gL 11 Try.func71 #[.int .i64 a0, .int .i64 a1] ?_; (with_reducible refine (impl_down.calls a0 a1 t437 _ A4.out).mono ?_); rintro e w' ⟨rfl, ⟨nd, rfl⟩⟩; refine ⟨_, rfl, ?_⟩))
    go_ret
    exact ⟨by first | rfl | (simp; done) | (simp [*]; done), by repeat (first | exact Drawn0.refl _ | apply Drawn0.step)⟩


/-! ### impl_NumRound: function 41 -/
def impl_NumRound.f (a0 : Int) (a1 : Int) (a2 : Int) : Option (Int × Bool) := (impl_divides.f a0 a1).bind fun t439 => (if t439 = true then ((impl_in.f a2 1 4).bind fun t440 => (if t440 = true then ((impl_round.f a0 a1 a2).bind fun t441 => (some (t441, true))) else (some (0, false)))) else (some (0, false)))
set_option maxHeartbeats 8000000 in
set_option maxRecDepth 100000 in
theorem impl_NumRound.calls (a0 : Int) (a1 : Int) (a2 : Int) (r1 : Int) (r2 : Bool) (w : World) (h : impl_NumRound.f a0 a1 a2 = some (r1, r2)) :
  Calls Try.prog 41 #[.int .i64 a0, .int .i64 a1, .int .i64 a2] w fun e w' => e = .returned (.tuple #[.int .i64 r1, .bool r2]) ∧ Drawn0 w w' := by
 have H : ((impl_divides.f a0 a1).bind fun t439 => (if t439 = true then ((impl_in.f a2 1 4).bind fun t440 => (if t440 = true then ((impl_round.f a0 a1 a2).bind fun t441 => (some (t441, true))) else (some (0, false)))) else (some (0, false)))) = some (r1, r2) := h
 clear h
 replace H := Option.bind_eq_some_iff.mp H
 obtain ⟨t439, A40, H⟩ := H
 try dsimp only at H
 have A4 := Aside0.mk A40
 clear A40
 by_cases c5 : t439 = true
 ·subst c5
  have H1 : ((impl_in.f a2 1 4).bind fun t440 => (if t440 = true then ((impl_round.f a0 a1 a2).bind fun t441 => (some (t441, true))) else (some (0, false)))) = some (r1, r2) := by rw [if_pos rfl] at H; exact H
  clear H
  have H := H1
  clear H1
  replace H := Option.bind_eq_some_iff.mp H
  obtain ⟨t440, A60, H⟩ := H
  try dsimp only at H
  have A6 := Aside0.mk A60
  clear A60
  by_cases c7 : t440 = true
  ·subst c7
   have H1 : ((impl_round.f a0 a1 a2).bind fun t441 => (some (t441, true))) = some (r1, r2) := by rw [if_pos rfl] at H; exact H
   clear H
   have H := H1
   clear H1
   replace H := Option.bind_eq_some_iff.mp H
   obtain ⟨t441, A80, H⟩ := H
   try dsimp only at H
   have A8 := Aside0.mk A80
   clear A80
   simp only [Option.some.injEq, Prod.mk.injEq] at H
   obtain ⟨rfl, rfl⟩ := H
   go_enter Try.func41, Try.ntmps41
   go_wp2_with (first | ((with_reducible refine gate_callee (f := 67) rfl ?_); refine gL 10 Try.func67 #[.int .i64 a0, .int .i64 a1] ?_; (with_reducible refine (impl_divides.calls a0 a1 true _ A4.out).mono ?_); rintro e w' ⟨rfl, ⟨nd, rfl⟩⟩; refine ⟨_, rfl, ?_⟩) | (go_at_call 50; (with_reducible refine (impl_in.calls a2 1 4 true _ A6.out).mono ?_); rintro e w' ⟨rfl, ⟨nd, rfl⟩⟩) | ((with_reducible refine gate_callee (f := 68) rfl ?_); refine gL 20 Try.func68 #[.int .i64 a0, .int .i64 a1, .int .i64 a2] ?_; (with_reducible refine (impl_round.calls a0 a1 a2 t441 _ A8.out).mono ?_); rintro e w' ⟨rfl, ⟨nd, rfl⟩⟩; refine ⟨_, rfl, ?_⟩))
   go_ret2
   exact ⟨by first | rfl | (simp; done) | (simp [*]; done), by repeat (first | exact Drawn0.refl _ | apply Drawn0.step)⟩
  ·replace c7 := Bool.eq_false_iff.mpr c7
   subst c7
   have H1 : (some (0, false)) = some (r1, r2) := by rw [if_neg (show ¬ (false = true) by decide)] at H; exact H
   clear H
   have H := H1
   clear H1
   simp only [Option.some.injEq, Prod.mk.injEq] at H
   obtain ⟨rfl, rfl⟩ := H
   go_enter Try.func41, Try.ntmps41
   go_wp2_with (first | ((with_reducible refine gate_callee (f := 67) rfl ?_); refine gL 10 Try.func67 #[.int .i64 a0, .int .i64 a1] ?_; (with_reducible refine (impl_divides.calls a0 a1 true _ A4.out).mono ?_); rintro e w' ⟨rfl, ⟨nd, rfl⟩⟩; refine ⟨_, rfl, ?_⟩) | (go_at_call 50; (with_reducible refine (impl_in.calls a2 1 4 false _ A6.out).mono ?_); rintro e w' ⟨rfl, ⟨nd, rfl⟩⟩))
   go_ret2
   exact ⟨by first | rfl | (simp; done) | (simp [*]; done), by repeat (first | exact Drawn0.refl _ | apply Drawn0.step)⟩
 ·replace c5 := Bool.eq_false_iff.mpr c5
  subst c5
  have H1 : (some (0, false)) = some (r1, r2) := by rw [if_neg (show ¬ (false = true) by decide)] at H; exact H
  clear H
  have H := H1
  clear H1
  simp only [Option.some.injEq, Prod.mk.injEq] at H
  obtain ⟨rfl, rfl⟩ := H
  go_enter Try.func41, Try.ntmps41
  go_wp2_with (first | ((with_reducible refine gate_callee (f := 67) rfl ?_); refine gL 10 Try.func67 #[.int .i64 a0, .int .i64 a1] ?_; (with_reducible refine (impl_divides.calls a0 a1 false _ A4.out).mono ?_); rintro e w' ⟨rfl, ⟨nd, rfl⟩⟩; refine ⟨_, rfl, ?_⟩))
  go_ret2
  exact ⟨by first | rfl | (simp; done) | (simp [*]; done), by repeat (first | exact Drawn0.refl _ | apply Drawn0.step)⟩


/-! ### impl_same: function 95 -/
def impl_same.f (a0 : Int) (a1 : Int) (a2 : Int) (a3 : Int) : Option (Int × Bool) := (impl_NumRound.f a0 a2 a3).bind fun bt442 => ((impl_NumRound.f a1 a2 a3).bind fun bt444 => (if bt442.2 = true then (if bt444.2 = true then (if bt442.1 = bt444.1 then (some (bt442.1, true)) else (some (0, false))) else (some (0, false))) else (some (0, false))))
set_option maxHeartbeats 8000000 in
set_option maxRecDepth 100000 in
theorem impl_same.calls (a0 : Int) (a1 : Int) (a2 : Int) (a3 : Int) (r1 : Int) (r2 : Bool) (w : World) (h : impl_same.f a0 a1 a2 a3 = some (r1, r2)) :
  Calls Try.prog 95 #[.int .i64 a0, .int .i64 a1, .int .i64 a2, .int .i64 a3] w fun e w' => e = .returned (.tuple #[.int .i64 r1, .bool r2]) ∧ Drawn0 w w' := by
 have H : ((impl_NumRound.f a0 a2 a3).bind fun bt442 => ((impl_NumRound.f a1 a2 a3).bind fun bt444 => (if bt442.2 = true then (if bt444.2 = true then (if bt442.1 = bt444.1 then (some (bt442.1, true)) else (some (0, false))) else (some (0, false))) else (some (0, false))))) = some (r1, r2) := h
 clear h
 replace H := Option.bind_eq_some_iff.mp H
 obtain ⟨⟨t442, t443⟩, A50, H⟩ := H
 try dsimp only at H
 have A5 := Aside0.mk A50
 clear A50
 replace H := Option.bind_eq_some_iff.mp H
 obtain ⟨⟨t444, t445⟩, A60, H⟩ := H
 try dsimp only at H
 have A6 := Aside0.mk A60
 clear A60
 by_cases c7 : t443 = true
 ·subst c7
  have H1 : (if t445 = true then (if t442 = t444 then (some (t442, true)) else (some (0, false))) else (some (0, false))) = some (r1, r2) := by rw [if_pos rfl] at H; exact H
  clear H
  have H := H1
  clear H1
  by_cases c8 : t445 = true
  ·subst c8
   have H1 : (if t442 = t444 then (some (t442, true)) else (some (0, false))) = some (r1, r2) := by rw [if_pos rfl] at H; exact H
   clear H
   have H := H1
   clear H1
   by_cases c9 : t442 = t444
   ·rw [if_pos c9] at H
    have c9b0 : (t442 == t444) = true := beq_iff_eq.mpr c9
    have c9b1 : (t442 != t444) = false := bne_eq_false_iff_eq.mpr c9
    clear c9
    simp only [Option.some.injEq, Prod.mk.injEq] at H
    obtain ⟨rfl, rfl⟩ := H
    go_enter Try.func95, Try.ntmps95
    go_wp2_with (first | ((with_reducible refine gate_callee (f := 41) rfl ?_); refine gL 18 Try.func41 #[.int .i64 a0, .int .i64 a2, .int .i64 a3] ?_; (with_reducible refine (impl_NumRound.calls a0 a2 a3 t442 true _ A5.out).mono ?_); rintro e w' ⟨rfl, ⟨nd, rfl⟩⟩; refine ⟨_, rfl, ?_⟩) | ((with_reducible refine gate_callee (f := 41) rfl ?_); refine gL 25 Try.func41 #[.int .i64 a1, .int .i64 a2, .int .i64 a3] ?_; (with_reducible refine (impl_NumRound.calls a1 a2 a3 t444 true _ A6.out).mono ?_); rintro e w' ⟨rfl, ⟨nd, rfl⟩⟩; refine ⟨_, rfl, ?_⟩))
    go_ret2
    exact ⟨by first | rfl | (simp; done) | (simp [*]; done), by repeat (first | exact Drawn0.refl _ | apply Drawn0.step)⟩
   ·rw [if_neg c9] at H
    have c9b0 : (t442 == t444) = false := beq_eq_false_iff_ne.mpr c9
    have c9b1 : (t442 != t444) = true := bne_iff_ne.mpr c9
    simp only [Option.some.injEq, Prod.mk.injEq] at H
    obtain ⟨rfl, rfl⟩ := H
    go_enter Try.func95, Try.ntmps95
    go_wp2_with (first | ((with_reducible refine gate_callee (f := 41) rfl ?_); refine gL 18 Try.func41 #[.int .i64 a0, .int .i64 a2, .int .i64 a3] ?_; (with_reducible refine (impl_NumRound.calls a0 a2 a3 t442 true _ A5.out).mono ?_); rintro e w' ⟨rfl, ⟨nd, rfl⟩⟩; refine ⟨_, rfl, ?_⟩) | ((with_reducible refine gate_callee (f := 41) rfl ?_); refine gL 25 Try.func41 #[.int .i64 a1, .int .i64 a2, .int .i64 a3] ?_; (with_reducible refine (impl_NumRound.calls a1 a2 a3 t444 true _ A6.out).mono ?_); rintro e w' ⟨rfl, ⟨nd, rfl⟩⟩; refine ⟨_, rfl, ?_⟩))
    go_ret2
    exact ⟨by first | rfl | (simp; done) | (simp [*]; done), by repeat (first | exact Drawn0.refl _ | apply Drawn0.step)⟩
  ·replace c8 := Bool.eq_false_iff.mpr c8
   subst c8
   have H1 : (some (0, false)) = some (r1, r2) := by rw [if_neg (show ¬ (false = true) by decide)] at H; exact H
   clear H
   have H := H1
   clear H1
   simp only [Option.some.injEq, Prod.mk.injEq] at H
   obtain ⟨rfl, rfl⟩ := H
   go_enter Try.func95, Try.ntmps95
   go_wp2_with (first | ((with_reducible refine gate_callee (f := 41) rfl ?_); refine gL 18 Try.func41 #[.int .i64 a0, .int .i64 a2, .int .i64 a3] ?_; (with_reducible refine (impl_NumRound.calls a0 a2 a3 t442 true _ A5.out).mono ?_); rintro e w' ⟨rfl, ⟨nd, rfl⟩⟩; refine ⟨_, rfl, ?_⟩) | ((with_reducible refine gate_callee (f := 41) rfl ?_); refine gL 25 Try.func41 #[.int .i64 a1, .int .i64 a2, .int .i64 a3] ?_; (with_reducible refine (impl_NumRound.calls a1 a2 a3 t444 false _ A6.out).mono ?_); rintro e w' ⟨rfl, ⟨nd, rfl⟩⟩; refine ⟨_, rfl, ?_⟩))
   go_ret2
   exact ⟨by first | rfl | (simp; done) | (simp [*]; done), by repeat (first | exact Drawn0.refl _ | apply Drawn0.step)⟩
 ·replace c7 := Bool.eq_false_iff.mpr c7
  subst c7
  have H1 : (some (0, false)) = some (r1, r2) := by rw [if_neg (show ¬ (false = true) by decide)] at H; exact H
  clear H
  have H := H1
  clear H1
  simp only [Option.some.injEq, Prod.mk.injEq] at H
  obtain ⟨rfl, rfl⟩ := H
  go_enter Try.func95, Try.ntmps95
  go_wp2_with (first | ((with_reducible refine gate_callee (f := 41) rfl ?_); refine gL 18 Try.func41 #[.int .i64 a0, .int .i64 a2, .int .i64 a3] ?_; (with_reducible refine (impl_NumRound.calls a0 a2 a3 t442 false _ A5.out).mono ?_); rintro e w' ⟨rfl, ⟨nd, rfl⟩⟩; refine ⟨_, rfl, ?_⟩) | ((with_reducible refine gate_callee (f := 41) rfl ?_); refine gL 25 Try.func41 #[.int .i64 a1, .int .i64 a2, .int .i64 a3] ?_; (with_reducible refine (impl_NumRound.calls a1 a2 a3 t444 t445 _ A6.out).mono ?_); rintro e w' ⟨rfl, ⟨nd, rfl⟩⟩; refine ⟨_, rfl, ?_⟩))
  go_ret2
  exact ⟨by first | rfl | (simp; done) | (simp [*]; done), by repeat (first | exact Drawn0.refl _ | apply Drawn0.step)⟩


/-! ### impl_FanRound: function 65 -/
def impl_FanRound.f (a0_0 : Int) (a0_1 : Int) (a1 : Int) (a2 : Int) : Option (Int × Bool) := (impl_fanOk.f a0_0 a0_1).bind fun t447 => (if t447 = true then ((impl_in.f a1 1 129600000).bind fun t448 => (if t448 = true then ((impl_same.f a0_0 a0_1 a1 a2).bind fun bt449 => (some (bt449.1, bt449.2))) else (some (0, false)))) else (some (0, false)))
set_option maxHeartbeats 8000000 in
set_option maxRecDepth 100000 in
theorem impl_FanRound.calls (a0_0 : Int) (a0_1 : Int) (a1 : Int) (a2 : Int) (r1 : Int) (r2 : Bool) (w : World) (h : impl_FanRound.f a0_0 a0_1 a1 a2 = some (r1, r2)) :
  Calls Try.prog 65 #[.agg #[.int .i64 a0_0, .int .i64 a0_1], .int .i64 a1, .int .i64 a2] w fun e w' => e = .returned (.tuple #[.int .i64 r1, .bool r2]) ∧ Below w.heap.size w w' := by
 have hu29 := Try.underlying29
 have HB := Aside0.mk (Below.refl w.heap.size w)
 have H : ((impl_fanOk.f a0_0 a0_1).bind fun t447 => (if t447 = true then ((impl_in.f a1 1 129600000).bind fun t448 => (if t448 = true then ((impl_same.f a0_0 a0_1 a1 a2).bind fun bt449 => (some (bt449.1, bt449.2))) else (some (0, false)))) else (some (0, false)))) = some (r1, r2) := h
 clear h
 replace H := Option.bind_eq_some_iff.mp H
 obtain ⟨t447, A40, H⟩ := H
 try dsimp only at H
 have A4 := Aside0.mk A40
 clear A40
 by_cases c5 : t447 = true
 ·subst c5
  have H1 : ((impl_in.f a1 1 129600000).bind fun t448 => (if t448 = true then ((impl_same.f a0_0 a0_1 a1 a2).bind fun bt449 => (some (bt449.1, bt449.2))) else (some (0, false)))) = some (r1, r2) := by rw [if_pos rfl] at H; exact H
  clear H
  have H := H1
  clear H1
  replace H := Option.bind_eq_some_iff.mp H
  obtain ⟨t448, A60, H⟩ := H
  try dsimp only at H
  have A6 := Aside0.mk A60
  clear A60
  by_cases c7 : t448 = true
  ·subst c7
   have H1 : ((impl_same.f a0_0 a0_1 a1 a2).bind fun bt449 => (some (bt449.1, bt449.2))) = some (r1, r2) := by rw [if_pos rfl] at H; exact H
   clear H
   have H := H1
   clear H1
   replace H := Option.bind_eq_some_iff.mp H
   obtain ⟨⟨t449, t450⟩, A80, H⟩ := H
   try dsimp only at H
   have A8 := Aside0.mk A80
   clear A80
   simp only [Option.some.injEq, Prod.mk.injEq] at H
   obtain ⟨rfl, rfl⟩ := H
   go_enter Try.func65, Try.ntmps65
   go_wp2_with (first | ((with_reducible refine gate_dst (N := 3) rfl ?_); refine bE 3 #[.int .i64 a0_0, .int .i64 a0_1] 29 ?_; intro gb446 hg w9 hbox hb; have BK446 := Aside0.mk (hbox); have GE446 := gw hg (hz0 HB); have GW446 := GE446; replace HB := hbb (hz0 HB) hb; clear hb hbox hg; obtain ⟨hcz10_0, hcz10_1, hfz10_0, hfz10_1⟩ := cz2 BK446) | ((with_reducible refine gate_callee (f := 51) rfl ?_); refine gL 9 Try.func51 #[.agg #[.int .i64 a0_0, .int .i64 a0_1]] ?_; (with_reducible refine (impl_fanOk.calls a0_0 a0_1 true _ A4.out).mono ?_); rintro e w11 ⟨rfl, hb⟩; refine ⟨_, rfl, ?_⟩; replace BK446 := bb (bk BK446) hb; replace HB := hbb (hzs HB) hb; clear hb) | (go_at_call 50; (with_reducible refine (impl_in.calls a1 1 129600000 true _ A6.out).mono ?_); rintro e w' ⟨rfl, ⟨nd, rfl⟩⟩; obtain ⟨hcz12_0, hcz12_1, hfz12_0, hfz12_1⟩ := cz2 BK446) | ((with_reducible refine gate_callee (f := 95) rfl ?_); refine gL 22 Try.func95 #[.int .i64 a0_0, .int .i64 a0_1, .int .i64 a1, .int .i64 a2] ?_; (with_reducible refine (impl_same.calls a0_0 a0_1 a1 a2 t449 t450 _ A8.out).mono ?_); rintro e w' ⟨rfl, ⟨nd, rfl⟩⟩; refine ⟨_, rfl, ?_⟩))
   go_ret2
   exact ⟨by first | rfl | (simp [errW_none, errW_some] <;> rfl) | (simp [*, errW_none, errW_some] <;> rfl), hzs HB⟩
  ·replace c7 := Bool.eq_false_iff.mpr c7
   subst c7
   have H1 : (some (0, false)) = some (r1, r2) := by rw [if_neg (show ¬ (false = true) by decide)] at H; exact H
   clear H
   have H := H1
   clear H1
   simp only [Option.some.injEq, Prod.mk.injEq] at H
   obtain ⟨rfl, rfl⟩ := H
   go_enter Try.func65, Try.ntmps65
   go_wp2_with (first | ((with_reducible refine gate_dst (N := 3) rfl ?_); refine bE 3 #[.int .i64 a0_0, .int .i64 a0_1] 29 ?_; intro gb446 hg w13 hbox hb; have BK446 := Aside0.mk (hbox); have GE446 := gw hg (hz0 HB); have GW446 := GE446; replace HB := hbb (hz0 HB) hb; clear hb hbox hg; obtain ⟨hcz14_0, hcz14_1, hfz14_0, hfz14_1⟩ := cz2 BK446) | ((with_reducible refine gate_callee (f := 51) rfl ?_); refine gL 9 Try.func51 #[.agg #[.int .i64 a0_0, .int .i64 a0_1]] ?_; (with_reducible refine (impl_fanOk.calls a0_0 a0_1 true _ A4.out).mono ?_); rintro e w15 ⟨rfl, hb⟩; refine ⟨_, rfl, ?_⟩; replace BK446 := bb (bk BK446) hb; replace HB := hbb (hzs HB) hb; clear hb) | (go_at_call 50; (with_reducible refine (impl_in.calls a1 1 129600000 false _ A6.out).mono ?_); rintro e w' ⟨rfl, ⟨nd, rfl⟩⟩))
   go_ret2
   exact ⟨by first | rfl | (simp [errW_none, errW_some] <;> rfl) | (simp [*, errW_none, errW_some] <;> rfl), hzs HB⟩
 ·replace c5 := Bool.eq_false_iff.mpr c5
  subst c5
  have H1 : (some (0, false)) = some (r1, r2) := by rw [if_neg (show ¬ (false = true) by decide)] at H; exact H
  clear H
  have H := H1
  clear H1
  simp only [Option.some.injEq, Prod.mk.injEq] at H
  obtain ⟨rfl, rfl⟩ := H
  go_enter Try.func65, Try.ntmps65
  go_wp2_with (first | ((with_reducible refine gate_dst (N := 3) rfl ?_); refine bE 3 #[.int .i64 a0_0, .int .i64 a0_1] 29 ?_; intro gb446 hg w16 hbox hb; have BK446 := Aside0.mk (hbox); have GE446 := gw hg (hz0 HB); have GW446 := GE446; replace HB := hbb (hz0 HB) hb; clear hb hbox hg; obtain ⟨hcz17_0, hcz17_1, hfz17_0, hfz17_1⟩ := cz2 BK446) | ((with_reducible refine gate_callee (f := 51) rfl ?_); refine gL 9 Try.func51 #[.agg #[.int .i64 a0_0, .int .i64 a0_1]] ?_; (with_reducible refine (impl_fanOk.calls a0_0 a0_1 false _ A4.out).mono ?_); rintro e w18 ⟨rfl, hb⟩; refine ⟨_, rfl, ?_⟩; replace BK446 := bb (bk BK446) hb; replace HB := hbb (hzs HB) hb; clear hb))
  go_ret2
  exact ⟨by first | rfl | (simp [errW_none, errW_some] <;> rfl) | (simp [*, errW_none, errW_some] <;> rfl), hzs HB⟩


end Go.Proofs.Ytmcippkpgmehdaa.M
