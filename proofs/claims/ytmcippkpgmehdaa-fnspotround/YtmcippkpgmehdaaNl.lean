import Derived.Test.YtmcippkpgmehdaaM0
import Derived.Test.YtmcippkpgmehdaaNa
import Derived.Test.YtmcippkpgmehdaaNj
namespace Go.Proofs.Ytmcippkpgmehdaa.M
open Go.RowKit Go.Proofs.YtmcippkpgmehdaaW.PrintWords Go.Proofs.YtmcippkpgmehdaaW.PrintLast Go.Proofs.YtmcippkpgmehdaaW.PrintMore
attribute [local go_sem] max2_int min2_int max_two min_two max_three min_three max_four min_four
attribute [local go_sem high] eqA42 eqA29 eqA24
attribute [local go_sem] fld42_0 fld42_1 fld29_0 fld29_1 fld24_0 fld24_1 fld38_0 fld38_1 fld88_0 fld88_1 fld88_2 fld88_3 fld88_4
set_option linter.unusedVariables false
set_option linter.unusedSimpArgs false

/-! ### spec_l13Ok: function 93 -/
def spec_l13Ok.f (a0_0 : Int) (a0_1 : Int) : Option (Bool) := (spec_l6In.f a0_0 (-129600000) 129600000).bind fun t277 => (if t277 = true then ((spec_l6In.f a0_1 a0_0 129600000).bind fun t278 => (some t278)) else (some false))
set_option maxHeartbeats 8000000 in
set_option maxRecDepth 100000 in
theorem spec_l13Ok.calls (a0_0 : Int) (a0_1 : Int) (r : Bool) (w : World) (h : spec_l13Ok.f a0_0 a0_1 = some r) :
  Calls Try.prog 93 #[.agg #[.int .i64 a0_0, .int .i64 a0_1]] w fun e w' => e = .returned (.bool r) ∧ Below w.heap.size w w' := by
 have hu29 := Try.underlying29
 have HB := Aside0.mk (Below.refl w.heap.size w)
 have H : ((spec_l6In.f a0_0 (-129600000) 129600000).bind fun t277 => (if t277 = true then ((spec_l6In.f a0_1 a0_0 129600000).bind fun t278 => (some t278)) else (some false))) = some r := h
 clear h
 replace H := Option.bind_eq_some_iff.mp H
 obtain ⟨t277, A20, H⟩ := H
 try dsimp only at H
 have A2 := Aside0.mk A20
 clear A20
 by_cases c3 : t277 = true
 ·subst c3
  have H1 : ((spec_l6In.f a0_1 a0_0 129600000).bind fun t278 => (some t278)) = some r := by rw [if_pos rfl] at H; exact H
  clear H
  have H := H1
  clear H1
  replace H := Option.bind_eq_some_iff.mp H
  obtain ⟨t278, A40, H⟩ := H
  try dsimp only at H
  have A4 := Aside0.mk A40
  clear A40
  obtain rfl := Option.some.inj H
  go_enter Try.func93, Try.ntmps93
  go_wp2_with (first | ((with_reducible refine gate_dst (N := 1) rfl ?_); refine bE 1 #[.int .i64 a0_0, .int .i64 a0_1] 29 ?_; intro gb276 hg w5 hbox hb; have BK276 := Aside0.mk (hbox); have GE276 := gw hg (hz0 HB); have GW276 := GE276; replace HB := hbb (hz0 HB) hb; clear hb hbox hg; obtain ⟨hcz6_0, hcz6_1, hfz6_0, hfz6_1⟩ := cz2 BK276) | ((with_reducible refine gate_callee (f := 55) rfl ?_); refine gL 5 Try.func55 #[.int .i64 a0_0, .int .i64 (-129600000), .int .i64 129600000] ?_; (with_reducible refine (spec_l6In.calls a0_0 (-129600000) 129600000 true _ A2.out).mono ?_); rintro e w' ⟨rfl, ⟨nd, rfl⟩⟩; refine ⟨_, rfl, ?_⟩) | (go_at_call 55; (with_reducible refine (spec_l6In.calls a0_1 a0_0 129600000 t278 _ A4.out).mono ?_); rintro e w' ⟨rfl, ⟨nd, rfl⟩⟩))
  go_ret
  exact ⟨by first | rfl | (simp [errW_none, errW_some] <;> rfl) | (simp [*, errW_none, errW_some] <;> rfl), hzs HB⟩
 ·replace c3 := Bool.eq_false_iff.mpr c3
  subst c3
  have H1 : (some false) = some r := by rw [if_neg (show ¬ (false = true) by decide)] at H; exact H
  clear H
  have H := H1
  clear H1
  obtain rfl := Option.some.inj H
  go_enter Try.func93, Try.ntmps93
  go_wp2_with (first | ((with_reducible refine gate_dst (N := 1) rfl ?_); refine bE 1 #[.int .i64 a0_0, .int .i64 a0_1] 29 ?_; intro gb276 hg w7 hbox hb; have BK276 := Aside0.mk (hbox); have GE276 := gw hg (hz0 HB); have GW276 := GE276; replace HB := hbb (hz0 HB) hb; clear hb hbox hg; obtain ⟨hcz8_0, hcz8_1, hfz8_0, hfz8_1⟩ := cz2 BK276) | ((with_reducible refine gate_callee (f := 55) rfl ?_); refine gL 5 Try.func55 #[.int .i64 a0_0, .int .i64 (-129600000), .int .i64 129600000] ?_; (with_reducible refine (spec_l6In.calls a0_0 (-129600000) 129600000 false _ A2.out).mono ?_); rintro e w' ⟨rfl, ⟨nd, rfl⟩⟩; refine ⟨_, rfl, ?_⟩))
  go_ret
  exact ⟨by first | rfl | (simp [errW_none, errW_some] <;> rfl) | (simp [*, errW_none, errW_some] <;> rfl), hzs HB⟩


/-! ### spec_l1Even: function 103 -/
def spec_l1Even.f (a0 : Int) (a1 : Int) : Option (Int) := (spec_l1Down.f a0 a1).bind fun t279 => (if (wrap64 (a0 - (wrap64 (t279 * a1)))) > (wrap64 (a1 - (wrap64 (a0 - (wrap64 (t279 * a1)))))) then (some (wrap64 (t279 + 1))) else (if (wrap64 (a0 - (wrap64 (t279 * a1)))) = (wrap64 (a1 - (wrap64 (a0 - (wrap64 (t279 * a1)))))) then (if (Int.tmod t279 2) = 0 then (some t279) else (some (wrap64 (t279 + 1)))) else (some t279)))
set_option maxHeartbeats 8000000 in
set_option maxRecDepth 100000 in
theorem spec_l1Even.calls (a0 : Int) (a1 : Int) (r : Int) (w : World) (h : spec_l1Even.f a0 a1 = some r) :
  Calls Try.prog 103 #[.int .i64 a0, .int .i64 a1] w fun e w' => e = .returned (.int .i64 r) ∧ Drawn0 w w' := by
 have H : ((spec_l1Down.f a0 a1).bind fun t279 => (if (wrap64 (a0 - (wrap64 (t279 * a1)))) > (wrap64 (a1 - (wrap64 (a0 - (wrap64 (t279 * a1)))))) then (some (wrap64 (t279 + 1))) else (if (wrap64 (a0 - (wrap64 (t279 * a1)))) = (wrap64 (a1 - (wrap64 (a0 - (wrap64 (t279 * a1)))))) then (if (Int.tmod t279 2) = 0 then (some t279) else (some (wrap64 (t279 + 1)))) else (some t279)))) = some r := h
 clear h
 replace H := Option.bind_eq_some_iff.mp H
 obtain ⟨t279, A30, H⟩ := H
 try dsimp only at H
 have A3 := Aside0.mk A30
 clear A30
 by_cases c4 : (wrap64 (a0 - (wrap64 (t279 * a1)))) > (wrap64 (a1 - (wrap64 (a0 - (wrap64 (t279 * a1))))))
 ·rw [if_pos c4] at H
  have c4b0 : decide ((wrap64 (a1 - (wrap64 (a0 - (wrap64 (t279 * a1)))))) < (wrap64 (a0 - (wrap64 (t279 * a1))))) = true := decide_eq_true c4
  clear c4
  obtain rfl := Option.some.inj H
  go_enter Try.func103, Try.ntmps103
  go_wp2_with (first | ((with_reducible refine gate_callee (f := 70) rfl ?_); refine gL 9 Try.func70 #[.int .i64 a0, .int .i64 a1] ?_; (with_reducible refine (spec_l1Down.calls a0 a1 t279 _ A3.out).mono ?_); rintro e w' ⟨rfl, ⟨nd, rfl⟩⟩; refine ⟨_, rfl, ?_⟩))
  go_ret
  exact ⟨by first | rfl | (simp; done) | (simp [*]; done), by repeat (first | exact Drawn0.refl _ | apply Drawn0.step)⟩
 ·rw [if_neg c4] at H
  have c4b0 : decide ((wrap64 (a1 - (wrap64 (a0 - (wrap64 (t279 * a1)))))) < (wrap64 (a0 - (wrap64 (t279 * a1))))) = false := decide_eq_false c4
  clear c4
  by_cases c5 : (wrap64 (a0 - (wrap64 (t279 * a1)))) = (wrap64 (a1 - (wrap64 (a0 - (wrap64 (t279 * a1))))))
  ·rw [if_pos c5] at H
   have c5b0 : ((wrap64 (a0 - (wrap64 (t279 * a1)))) == (wrap64 (a1 - (wrap64 (a0 - (wrap64 (t279 * a1))))))) = true := beq_iff_eq.mpr c5
   have c5b1 : ((wrap64 (a0 - (wrap64 (t279 * a1)))) != (wrap64 (a1 - (wrap64 (a0 - (wrap64 (t279 * a1))))))) = false := bne_eq_false_iff_eq.mpr c5
   clear c5
   by_cases c6 : (Int.tmod t279 2) = 0
   ·rw [if_pos c6] at H
    have c6b0 : ((Int.tmod t279 2) == 0) = true := beq_iff_eq.mpr c6
    have c6b1 : ((Int.tmod t279 2) != 0) = false := bne_eq_false_iff_eq.mpr c6
    clear c6
    obtain rfl := Option.some.inj H
    go_enter Try.func103, Try.ntmps103
    go_wp2_with (first | ((with_reducible refine gate_callee (f := 70) rfl ?_); refine gL 9 Try.func70 #[.int .i64 a0, .int .i64 a1] ?_; (with_reducible refine (spec_l1Down.calls a0 a1 t279 _ A3.out).mono ?_); rintro e w' ⟨rfl, ⟨nd, rfl⟩⟩; refine ⟨_, rfl, ?_⟩))
    go_ret
    exact ⟨by first | rfl | (simp; done) | (simp [*]; done), by repeat (first | exact Drawn0.refl _ | apply Drawn0.step)⟩
   ·rw [if_neg c6] at H
    have c6b0 : ((Int.tmod t279 2) == 0) = false := beq_eq_false_iff_ne.mpr c6
    have c6b1 : ((Int.tmod t279 2) != 0) = true := bne_iff_ne.mpr c6
    obtain rfl := Option.some.inj H
    go_enter Try.func103, Try.ntmps103
    go_wp2_with (first | ((with_reducible refine gate_callee (f := 70) rfl ?_); refine gL 9 Try.func70 #[.int .i64 a0, .int .i64 a1] ?_; (with_reducible refine (spec_l1Down.calls a0 a1 t279 _ A3.out).mono ?_); rintro e w' ⟨rfl, ⟨nd, rfl⟩⟩; refine ⟨_, rfl, ?_⟩))
    go_ret
    exact ⟨by first | rfl | (simp; done) | (simp [*]; done), by repeat (first | exact Drawn0.refl _ | apply Drawn0.step)⟩
  ·rw [if_neg c5] at H
   have c5b0 : ((wrap64 (a0 - (wrap64 (t279 * a1)))) == (wrap64 (a1 - (wrap64 (a0 - (wrap64 (t279 * a1))))))) = false := beq_eq_false_iff_ne.mpr c5
   have c5b1 : ((wrap64 (a0 - (wrap64 (t279 * a1)))) != (wrap64 (a1 - (wrap64 (a0 - (wrap64 (t279 * a1))))))) = true := bne_iff_ne.mpr c5
   obtain rfl := Option.some.inj H
   go_enter Try.func103, Try.ntmps103
   go_wp2_with (first | ((with_reducible refine gate_callee (f := 70) rfl ?_); refine gL 9 Try.func70 #[.int .i64 a0, .int .i64 a1] ?_; (with_reducible refine (spec_l1Down.calls a0 a1 t279 _ A3.out).mono ?_); rintro e w' ⟨rfl, ⟨nd, rfl⟩⟩; refine ⟨_, rfl, ?_⟩))
   go_ret
   exact ⟨by first | rfl | (simp; done) | (simp [*]; done), by repeat (first | exact Drawn0.refl _ | apply Drawn0.step)⟩


/-! ### spec_l1Round: function 94 -/
def spec_l1Round.f (a0 : Int) (a1 : Int) (a2 : Int) : Option (Int) := if a2 = 1 then ((spec_l1Down.f a0 a1).bind fun t280 => (some t280)) else (if a2 = 2 then ((spec_l1Up.f a0 a1).bind fun t281 => (some t281)) else (if a2 = 3 then (if a0 < 0 then ((spec_l1Up.f a0 a1).bind fun t282 => (some t282)) else ((spec_l1Down.f a0 a1).bind fun t283 => (some t283))) else ((spec_l1Even.f a0 a1).bind fun t284 => (some t284))))
set_option maxHeartbeats 8000000 in
set_option maxRecDepth 100000 in
theorem spec_l1Round.calls (a0 : Int) (a1 : Int) (a2 : Int) (r : Int) (w : World) (h : spec_l1Round.f a0 a1 a2 = some r) :
  Calls Try.prog 94 #[.int .i64 a0, .int .i64 a1, .int .i64 a2] w fun e w' => e = .returned (.int .i64 r) ∧ Drawn0 w w' := by
 have H : (if a2 = 1 then ((spec_l1Down.f a0 a1).bind fun t280 => (some t280)) else (if a2 = 2 then ((spec_l1Up.f a0 a1).bind fun t281 => (some t281)) else (if a2 = 3 then (if a0 < 0 then ((spec_l1Up.f a0 a1).bind fun t282 => (some t282)) else ((spec_l1Down.f a0 a1).bind fun t283 => (some t283))) else ((spec_l1Even.f a0 a1).bind fun t284 => (some t284))))) = some r := h
 clear h
 by_cases c4 : a2 = 1
 ·rw [if_pos c4] at H
  have c4b0 : (a2 == 1) = true := beq_iff_eq.mpr c4
  have c4b1 : (a2 != 1) = false := bne_eq_false_iff_eq.mpr c4
  clear c4
  replace H := Option.bind_eq_some_iff.mp H
  obtain ⟨t280, A50, H⟩ := H
  try dsimp only at H
  have A5 := Aside0.mk A50
  clear A50
  obtain rfl := Option.some.inj H
  go_enter Try.func94, Try.ntmps94
  go_wp2_with (first | ((with_reducible refine gate_callee (f := 70) rfl ?_); refine gL 12 Try.func70 #[.int .i64 a0, .int .i64 a1] ?_; (with_reducible refine (spec_l1Down.calls a0 a1 t280 _ A5.out).mono ?_); rintro e w' ⟨rfl, ⟨nd, rfl⟩⟩; refine ⟨_, rfl, ?_⟩))
  go_ret
  exact ⟨by first | rfl | (simp; done) | (simp [*]; done), by repeat (first | exact Drawn0.refl _ | apply Drawn0.step)⟩
 ·rw [if_neg c4] at H
  have c4b0 : (a2 == 1) = false := beq_eq_false_iff_ne.mpr c4
  have c4b1 : (a2 != 1) = true := bne_iff_ne.mpr c4
  by_cases c6 : a2 = 2
  ·rw [if_pos c6] at H
   have c6b0 : (a2 == 2) = true := beq_iff_eq.mpr c6
   have c6b1 : (a2 != 2) = false := bne_eq_false_iff_eq.mpr c6
   clear c6
   replace H := Option.bind_eq_some_iff.mp H
   obtain ⟨t281, A70, H⟩ := H
   try dsimp only at H
   have A7 := Aside0.mk A70
   clear A70
   obtain rfl := Option.some.inj H
   go_enter Try.func94, Try.ntmps94
   go_wp2_with (first | ((with_reducible refine gate_callee (f := 89) rfl ?_); refine gL 17 Try.func89 #[.int .i64 a0, .int .i64 a1] ?_; (with_reducible refine (spec_l1Up.calls a0 a1 t281 _ A7.out).mono ?_); rintro e w' ⟨rfl, ⟨nd, rfl⟩⟩; refine ⟨_, rfl, ?_⟩))
   go_ret
   exact ⟨by first | rfl | (simp; done) | (simp [*]; done), by repeat (first | exact Drawn0.refl _ | apply Drawn0.step)⟩
  ·rw [if_neg c6] at H
   have c6b0 : (a2 == 2) = false := beq_eq_false_iff_ne.mpr c6
   have c6b1 : (a2 != 2) = true := bne_iff_ne.mpr c6
   by_cases c8 : a2 = 3
   ·rw [if_pos c8] at H
    have c8b0 : (a2 == 3) = true := beq_iff_eq.mpr c8
    have c8b1 : (a2 != 3) = false := bne_eq_false_iff_eq.mpr c8
    clear c8
    by_cases c9 : a0 < 0
    ·rw [if_pos c9] at H
     have c9b0 : decide (a0 < 0) = true := decide_eq_true c9
     clear c9
     replace H := Option.bind_eq_some_iff.mp H
     obtain ⟨t282, A100, H⟩ := H
     try dsimp only at H
     have A10 := Aside0.mk A100
     clear A100
     obtain rfl := Option.some.inj H
     go_enter Try.func94, Try.ntmps94
     go_wp2_with (first | ((with_reducible refine gate_callee (f := 89) rfl ?_); refine gL 24 Try.func89 #[.int .i64 a0, .int .i64 a1] ?_; (with_reducible refine (spec_l1Up.calls a0 a1 t282 _ A10.out).mono ?_); rintro e w' ⟨rfl, ⟨nd, rfl⟩⟩; refine ⟨_, rfl, ?_⟩))
     go_ret
     exact ⟨by first | rfl | (simp; done) | (simp [*]; done), by repeat (first | exact Drawn0.refl _ | apply Drawn0.step)⟩
    ·rw [if_neg c9] at H
     have c9b0 : decide (a0 < 0) = false := decide_eq_false c9
     clear c9
     replace H := Option.bind_eq_some_iff.mp H
     obtain ⟨t283, A110, H⟩ := H
     try dsimp only at H
     have A11 := Aside0.mk A110
     clear A110
     obtain rfl := Option.some.inj H
     go_enter Try.func94, Try.ntmps94
     go_wp2_with (first | ((with_reducible refine gate_callee (f := 70) rfl ?_); refine gL 27 Try.func70 #[.int .i64 a0, .int .i64 a1] ?_; (with_reducible refine (spec_l1Down.calls a0 a1 t283 _ A11.out).mono ?_); rintro e w' ⟨rfl, ⟨nd, rfl⟩⟩; refine ⟨_, rfl, ?_⟩))
     go_ret
     exact ⟨by first | rfl | (simp; done) | (simp [*]; done), by repeat (first | exact Drawn0.refl _ | apply Drawn0.step)⟩
   ·rw [if_neg c8] at H
    have c8b0 : (a2 == 3) = false := beq_eq_false_iff_ne.mpr c8
    have c8b1 : (a2 != 3) = true := bne_iff_ne.mpr c8
    replace H := Option.bind_eq_some_iff.mp H
    obtain ⟨t284, A120, H⟩ := H
    try dsimp only at H
    have A12 := Aside0.mk A120
    clear A120
    obtain rfl := Option.some.inj H
    go_enter Try.func94, Try.ntmps94
    go_wp2_with (first | ((with_reducible refine gate_callee (f := 103) rfl ?_); refine gL 30 Try.func103 #[.int .i64 a0, .int .i64 a1] ?_; (with_reducible refine (spec_l1Even.calls a0 a1 t284 _ A12.out).mono ?_); rintro e w' ⟨rfl, ⟨nd, rfl⟩⟩; refine ⟨_, rfl, ?_⟩))
    go_ret
    exact ⟨by first | rfl | (simp; done) | (simp [*]; done), by repeat (first | exact Drawn0.refl _ | apply Drawn0.step)⟩


/-! ### spec_FanRound: function 64 -/
def spec_FanRound.j0 : Nat → Int → Int → Bool → Int → Int → Option (Int × Bool)
 | 0, _, _, _, _, _ => none
 | k + 1, x1, x2, x22, x286000, x286001 => if x22 = true then (some (0, false)) else ((spec_l1Round.f x286000 x1 x2).bind fun t289 => ((spec_l1Round.f x286001 x1 x2).bind fun t290 => (if t289 = t290 then (some (t289, true)) else (some (0, false)))))
def spec_FanRound.f (k : Nat) (a0_0 : Int) (a0_1 : Int) (a1 : Int) (a2 : Int) : Option (Int × Bool) := (spec_l13Ok.f a0_0 a0_1).bind fun t286 => (if t286 = true then ((spec_l6In.f a1 1 129600000).bind fun t287 => (if t287 = true then ((spec_l6In.f a2 1 4).bind fun t288 => (spec_FanRound.j0 k a1 a2 (!t288) a0_0 a0_1)) else (spec_FanRound.j0 k a1 a2 true a0_0 a0_1))) else (spec_FanRound.j0 k a1 a2 true a0_0 a0_1))
set_option maxHeartbeats 8000000 in
set_option maxRecDepth 100000 in
theorem spec_FanRound.calls (k : Nat) (a0_0 : Int) (a0_1 : Int) (a1 : Int) (a2 : Int) (r1 : Int) (r2 : Bool) (w : World) (h : spec_FanRound.f k a0_0 a0_1 a1 a2 = some (r1, r2)) :
  Calls Try.prog 64 #[.agg #[.int .i64 a0_0, .int .i64 a0_1], .int .i64 a1, .int .i64 a2] w fun e w' => e = .returned (.tuple #[.int .i64 r1, .bool r2]) ∧ Below w.heap.size w w' := by
 have hu29 := Try.underlying29
 have HB := Aside0.mk (Below.refl w.heap.size w)
 have H : ((spec_l13Ok.f a0_0 a0_1).bind fun t286 => (if t286 = true then ((spec_l6In.f a1 1 129600000).bind fun t287 => (if t287 = true then ((spec_l6In.f a2 1 4).bind fun t288 => (spec_FanRound.j0 k a1 a2 (!t288) a0_0 a0_1)) else (spec_FanRound.j0 k a1 a2 true a0_0 a0_1))) else (spec_FanRound.j0 k a1 a2 true a0_0 a0_1))) = some (r1, r2) := h
 clear h
 have HC4 := Aside0.mk H
 clear H
 go_enter Try.func64, Try.ntmps64
 go_upto_region 1 with (first | ((with_reducible refine gate_dst (N := 3) rfl ?_); refine bE 3 #[.int .i64 a0_0, .int .i64 a0_1] 29 ?_; intro gb285 hg w5 hbox hb; have BK285 := Aside0.mk (hbox); have GE285 := gw hg (hz0 HB); replace HB := hbb (hz0 HB) hb; clear hb hbox hg))
 (try simp only [Act.put, List.setIfInBounds_toArray, List.set_cons_zero, List.set_cons_succ])
 go_cut [22] (fun v22 wc => ∃ (kq : Nat) (x22_3 : Bool), v22 = .bool x22_3 ∧ Aside0 (spec_FanRound.j0 kq a1 a2 x22_3 a0_0 a0_1 = some (r1, r2)) ∧ Aside0 (kq ≤ k) ∧ Aside0 (wc.heap[gb285]? = some (.cells #[.int .i64 a0_0, .int .i64 a0_1] 29 (0, 0))) ∧ Aside0 (Below w.heap.size w wc))
 case first =>
  have H := HC4.out
  clear HC4
  replace H := Option.bind_eq_some_iff.mp H
  obtain ⟨t286, A60, H⟩ := H
  try dsimp only at H
  have A6 := Aside0.mk A60
  clear A60
  by_cases c7 : t286 = true
  ·subst c7
   have H1 : ((spec_l6In.f a1 1 129600000).bind fun t287 => (if t287 = true then ((spec_l6In.f a2 1 4).bind fun t288 => (spec_FanRound.j0 k a1 a2 (!t288) a0_0 a0_1)) else (spec_FanRound.j0 k a1 a2 true a0_0 a0_1))) = some (r1, r2) := by rw [if_pos rfl] at H; exact H
   clear H
   have H := H1
   clear H1
   replace H := Option.bind_eq_some_iff.mp H
   obtain ⟨t287, A80, H⟩ := H
   try dsimp only at H
   have A8 := Aside0.mk A80
   clear A80
   by_cases c9 : t287 = true
   ·subst c9
    have H1 : ((spec_l6In.f a2 1 4).bind fun t288 => (spec_FanRound.j0 k a1 a2 (!t288) a0_0 a0_1)) = some (r1, r2) := by rw [if_pos rfl] at H; exact H
    clear H
    have H := H1
    clear H1
    replace H := Option.bind_eq_some_iff.mp H
    obtain ⟨t288, A100, H⟩ := H
    try dsimp only at H
    have A10 := Aside0.mk A100
    clear A100
    have H' := Aside0.mk H
    clear H
    obtain ⟨hcz11_0, hcz11_1, hfz11_0, hfz11_1⟩ := cz2 BK285
    go_wp2_with (first | ((with_reducible refine gate_callee (f := 93) rfl ?_); refine gL 11 Try.func93 #[.agg #[.int .i64 a0_0, .int .i64 a0_1]] ?_; (with_reducible refine (spec_l13Ok.calls a0_0 a0_1 true _ A6.out).mono ?_); rintro e w12 ⟨rfl, hb⟩; refine ⟨_, rfl, ?_⟩; replace BK285 := bb (bk BK285) hb; replace HB := hbb (hzs HB) hb; clear hb) | (go_at_call 55; (with_reducible refine (spec_l6In.calls a1 1 129600000 true _ A8.out).mono ?_); rintro e w' ⟨rfl, ⟨nd, rfl⟩⟩) | (go_at_call 55; (with_reducible refine (spec_l6In.calls a2 1 4 t288 _ A10.out).mono ?_); rintro e w' ⟨rfl, ⟨nd, rfl⟩⟩))
    go_meet
    case rel => exact ⟨_, (!t288), (by first | rfl | (simp; done) | (simp [*]; done)), H', ⟨by first | omega | exact Nat.le_refl _⟩, ⟨bk BK285⟩, ⟨hzs HB⟩⟩
   ·replace c9 := Bool.eq_false_iff.mpr c9
    subst c9
    have H1 : (spec_FanRound.j0 k a1 a2 true a0_0 a0_1) = some (r1, r2) := by rw [if_neg (show ¬ (false = true) by decide)] at H; exact H
    clear H
    have H := H1
    clear H1
    have H' := Aside0.mk H
    clear H
    obtain ⟨hcz13_0, hcz13_1, hfz13_0, hfz13_1⟩ := cz2 BK285
    go_wp2_with (first | ((with_reducible refine gate_callee (f := 93) rfl ?_); refine gL 11 Try.func93 #[.agg #[.int .i64 a0_0, .int .i64 a0_1]] ?_; (with_reducible refine (spec_l13Ok.calls a0_0 a0_1 true _ A6.out).mono ?_); rintro e w14 ⟨rfl, hb⟩; refine ⟨_, rfl, ?_⟩; replace BK285 := bb (bk BK285) hb; replace HB := hbb (hzs HB) hb; clear hb) | (go_at_call 55; (with_reducible refine (spec_l6In.calls a1 1 129600000 false _ A8.out).mono ?_); rintro e w' ⟨rfl, ⟨nd, rfl⟩⟩))
    go_meet
    case rel => exact ⟨_, (true), (by first | rfl | (simp; done) | (simp [*]; done)), H', ⟨by first | omega | exact Nat.le_refl _⟩, ⟨bk BK285⟩, ⟨hzs HB⟩⟩
  ·replace c7 := Bool.eq_false_iff.mpr c7
   subst c7
   have H1 : (spec_FanRound.j0 k a1 a2 true a0_0 a0_1) = some (r1, r2) := by rw [if_neg (show ¬ (false = true) by decide)] at H; exact H
   clear H
   have H := H1
   clear H1
   have H' := Aside0.mk H
   clear H
   obtain ⟨hcz15_0, hcz15_1, hfz15_0, hfz15_1⟩ := cz2 BK285
   go_wp2_with (first | ((with_reducible refine gate_callee (f := 93) rfl ?_); refine gL 11 Try.func93 #[.agg #[.int .i64 a0_0, .int .i64 a0_1]] ?_; (with_reducible refine (spec_l13Ok.calls a0_0 a0_1 false _ A6.out).mono ?_); rintro e w16 ⟨rfl, hb⟩; refine ⟨_, rfl, ?_⟩; replace BK285 := bb (bk BK285) hb; replace HB := hbb (hzs HB) hb; clear hb))
   go_meet
   case rel => exact ⟨_, (true), (by first | rfl | (simp; done) | (simp [*]; done)), H', ⟨by first | omega | exact Nat.le_refl _⟩, ⟨bk BK285⟩, ⟨hzs HB⟩⟩
 case rest =>
  clear HC4
  try clear p2
  try clear c6
  try clear c7
  try clear c9
  try clear hcz11_0 hcz11_1
  try clear hcz13_0 hcz13_1
  try clear hcz15_0 hcz15_1
  try clear hfz11_0 hfz11_1
  try clear hfz13_0 hfz13_1
  try clear hfz15_0 hfz15_1
  obtain ⟨kq, x22_3, rfl, HA, HJ3, BK285, HB⟩ := hcut
  cases kq with
  | zero => exact absurd HA.out (by simp [spec_FanRound.j0])
  | succ kj3 =>
   have H := HA.out
   clear HA
   simp only [spec_FanRound.j0] at H
   by_cases c17 : x22_3 = true
   ·subst c17
    have H1 : (some (0, false)) = some (r1, r2) := by rw [if_pos rfl] at H; exact H
    clear H
    have H := H1
    clear H1
    simp only [Option.some.injEq, Prod.mk.injEq] at H
    obtain ⟨rfl, rfl⟩ := H
    go_wp2
    go_ret2
    exact ⟨by first | rfl | (simp [errW_none, errW_some] <;> rfl) | (simp [*, errW_none, errW_some] <;> rfl), hzs HB⟩
   ·replace c17 := Bool.eq_false_iff.mpr c17
    subst c17
    have H1 : ((spec_l1Round.f a0_0 a1 a2).bind fun t289 => ((spec_l1Round.f a0_1 a1 a2).bind fun t290 => (if t289 = t290 then (some (t289, true)) else (some (0, false))))) = some (r1, r2) := by rw [if_neg (show ¬ (false = true) by decide)] at H; exact H
    clear H
    have H := H1
    clear H1
    replace H := Option.bind_eq_some_iff.mp H
    obtain ⟨t289, A180, H⟩ := H
    try dsimp only at H
    have A18 := Aside0.mk A180
    clear A180
    replace H := Option.bind_eq_some_iff.mp H
    obtain ⟨t290, A190, H⟩ := H
    try dsimp only at H
    have A19 := Aside0.mk A190
    clear A190
    by_cases c20 : t289 = t290
    ·rw [if_pos c20] at H
     have c20b0 : (t289 == t290) = true := beq_iff_eq.mpr c20
     have c20b1 : (t289 != t290) = false := bne_eq_false_iff_eq.mpr c20
     clear c20
     simp only [Option.some.injEq, Prod.mk.injEq] at H
     obtain ⟨rfl, rfl⟩ := H
     obtain ⟨hcz21_0, hcz21_1, hfz21_0, hfz21_1⟩ := cz2 BK285
     go_wp2_with (first | ((with_reducible refine gate_callee (f := 94) rfl ?_); refine gL 27 Try.func94 #[.int .i64 a0_0, .int .i64 a1, .int .i64 a2] ?_; (with_reducible refine (spec_l1Round.calls a0_0 a1 a2 t289 _ A18.out).mono ?_); rintro e w' ⟨rfl, ⟨nd, rfl⟩⟩; refine ⟨_, rfl, ?_⟩) | ((with_reducible refine gate_callee (f := 94) rfl ?_); refine gL 32 Try.func94 #[.int .i64 a0_1, .int .i64 a1, .int .i64 a2] ?_; (with_reducible refine (spec_l1Round.calls a0_1 a1 a2 t290 _ A19.out).mono ?_); rintro e w' ⟨rfl, ⟨nd, rfl⟩⟩; refine ⟨_, rfl, ?_⟩))
     go_ret2
     exact ⟨by first | rfl | (simp [errW_none, errW_some] <;> rfl) | (simp [*, errW_none, errW_some] <;> rfl), hzs HB⟩
    ·rw [if_neg c20] at H
     have c20b0 : (t289 == t290) = false := beq_eq_false_iff_ne.mpr c20
     have c20b1 : (t289 != t290) = true := bne_iff_ne.mpr c20
     simp only [Option.some.injEq, Prod.mk.injEq] at H
     obtain ⟨rfl, rfl⟩ := H
     obtain ⟨hcz22_0, hcz22_1, hfz22_0, hfz22_1⟩ := cz2 BK285
     go_wp2_with (first | ((with_reducible refine gate_callee (f := 94) rfl ?_); refine gL 27 Try.func94 #[.int .i64 a0_0, .int .i64 a1, .int .i64 a2] ?_; (with_reducible refine (spec_l1Round.calls a0_0 a1 a2 t289 _ A18.out).mono ?_); rintro e w' ⟨rfl, ⟨nd, rfl⟩⟩; refine ⟨_, rfl, ?_⟩) | ((with_reducible refine gate_callee (f := 94) rfl ?_); refine gL 32 Try.func94 #[.int .i64 a0_1, .int .i64 a1, .int .i64 a2] ?_; (with_reducible refine (spec_l1Round.calls a0_1 a1 a2 t290 _ A19.out).mono ?_); rintro e w' ⟨rfl, ⟨nd, rfl⟩⟩; refine ⟨_, rfl, ?_⟩))
     go_ret2
     exact ⟨by first | rfl | (simp [errW_none, errW_some] <;> rfl) | (simp [*, errW_none, errW_some] <;> rfl), hzs HB⟩


/-! ### spec_SpotRound: function 37 -/
def spec_SpotRound.f (k : Nat) (a0_0 : Int) (a0_1 : Int) (a1_0 : Int) (a1_1 : Int) (a2 : Int) (a3 : Int) : Option (Int × Bool) := (spec_SpotDist.f k a0_0 a0_1 a1_0 a1_1).bind fun bt293 => (if bt293.2.2 = true then ((spec_FanRound.f k bt293.1 bt293.2.1 a2 a3).bind fun bt297 => (some (bt297.1, bt297.2))) else (some (0, false)))
set_option maxHeartbeats 8000000 in
set_option maxRecDepth 100000 in
theorem spec_SpotRound.calls (k : Nat) (a0_0 : Int) (a0_1 : Int) (a1_0 : Int) (a1_1 : Int) (a2 : Int) (a3 : Int) (r1 : Int) (r2 : Bool) (w : World) (h : spec_SpotRound.f k a0_0 a0_1 a1_0 a1_1 a2 a3 = some (r1, r2)) :
  Calls Try.prog 37 #[.agg #[.int .i64 a0_0, .int .i64 a0_1], .agg #[.int .i64 a1_0, .int .i64 a1_1], .int .i64 a2, .int .i64 a3] w fun e w' => e = .returned (.tuple #[.int .i64 r1, .bool r2]) ∧ Below w.heap.size w w' := by
 have hu24 := Try.underlying24
 have hu29 := Try.underlying29
 have HB := Aside0.mk (Below.refl w.heap.size w)
 have H : ((spec_SpotDist.f k a0_0 a0_1 a1_0 a1_1).bind fun bt293 => (if bt293.2.2 = true then ((spec_FanRound.f k bt293.1 bt293.2.1 a2 a3).bind fun bt297 => (some (bt297.1, bt297.2))) else (some (0, false)))) = some (r1, r2) := h
 clear h
 replace H := Option.bind_eq_some_iff.mp H
 obtain ⟨⟨t293, t294, t295⟩, A50, H⟩ := H
 try dsimp only at H
 have A5 := Aside0.mk A50
 clear A50
 by_cases c6 : t295 = true
 ·subst c6
  have H1 : ((spec_FanRound.f k t293 t294 a2 a3).bind fun bt297 => (some (bt297.1, bt297.2))) = some (r1, r2) := by rw [if_pos rfl] at H; exact H
  clear H
  have H := H1
  clear H1
  replace H := Option.bind_eq_some_iff.mp H
  obtain ⟨⟨t297, t298⟩, A70, H⟩ := H
  try dsimp only at H
  have A7 := Aside0.mk A70
  clear A70
  simp only [Option.some.injEq, Prod.mk.injEq] at H
  obtain ⟨rfl, rfl⟩ := H
  go_enter Try.func37, Try.ntmps37
  go_wp2_with (first | ((with_reducible refine gate_dst (N := 4) rfl ?_); refine bE 4 #[.int .i64 a0_0, .int .i64 a0_1] 24 ?_; intro gb291 hg w8 hbox hb; have BK291 := Aside0.mk (hbox); have GE291 := gw hg (hz0 HB); have GW291 := GE291; replace HB := hbb (hz0 HB) hb; clear hb hbox hg) | ((with_reducible refine gate_dst (N := 5) rfl ?_); refine bE 5 #[.int .i64 a1_0, .int .i64 a1_1] 24 ?_; intro gb292 hg w9 hbox hb; have BK292 := Aside0.mk (hbox); have GE292 := gw hg (hzs HB); have GW292 := GE292; have NB291_292 := nl hg (bk BK291); have NB292_291 := ng hg (bk BK291); replace BK291 := bb (bk BK291) hb; replace HB := hbb (hzs HB) hb; clear hb hbox hg; have hnb10 := NB291_292.out; have hnc10 := NB292_291.out; obtain ⟨hcz11_0, hcz11_1, hfz11_0, hfz11_1⟩ := cz2 BK291; obtain ⟨hcz12_0, hcz12_1, hfz12_0, hfz12_1⟩ := cz2 BK292) | ((with_reducible refine gate_callee (f := 36) rfl ?_); refine gL 15 Try.func36 #[.agg #[.int .i64 a0_0, .int .i64 a0_1], .agg #[.int .i64 a1_0, .int .i64 a1_1]] ?_; (with_reducible refine (spec_SpotDist.calls k a0_0 a0_1 a1_0 a1_1 t293 t294 true _ A5.out).mono ?_); rintro e w13 ⟨rfl, hb⟩; refine ⟨_, rfl, ?_⟩; replace BK291 := bb (bk BK291) hb; replace BK292 := bb (bk BK292) hb; replace HB := hbb (hzs HB) hb; clear hb) | ((with_reducible refine gate_dst (N := 10) rfl ?_); refine bE 10 #[.int .i64 0, .int .i64 0] 29 ?_; intro gb296 hg w14 hbox hb; have BK296 := Aside0.mk (hbox); have GE296 := gw hg (hzs HB); have GW296 := GE296; have NB291_296 := nl hg (bk BK291); have NB296_291 := ng hg (bk BK291); have NB292_296 := nl hg (bk BK292); have NB296_292 := ng hg (bk BK292); replace BK291 := bb (bk BK291) hb; replace BK292 := bb (bk BK292) hb; replace HB := hbb (hzs HB) hb; clear hb hbox hg; have hnb15 := NB296_291.out; have hnc15 := NB291_296.out; have hnb16 := NB296_292.out; have hnc16 := NB292_296.out; obtain ⟨hcz17_0, hcz17_1, hfz17_0, hfz17_1⟩ := cz2 BK296) | ((with_reducible refine gate_callee (f := 64) rfl ?_); refine gL 23 Try.func64 #[.agg #[.int .i64 t293, .int .i64 t294], .int .i64 a2, .int .i64 a3] ?_; (with_reducible refine (spec_FanRound.calls k t293 t294 a2 a3 t297 t298 _ A7.out).mono ?_); rintro e w18 ⟨rfl, hb⟩; refine ⟨_, rfl, ?_⟩; replace BK291 := bb (bk1 BK291 NB291_296) hb; replace BK292 := bb (bk1 BK292 NB292_296) hb; replace BK296 := bb (o := .cells #[.int .i64 t293, .int .i64 t294] 29 (0, 0)) (bkp BK296) hb; replace HB := hbb (hzs HB) hb; clear hb))
  go_ret2
  exact ⟨by first | rfl | (simp [errW_none, errW_some] <;> rfl) | (simp [*, errW_none, errW_some] <;> rfl), hzs HB⟩
 ·replace c6 := Bool.eq_false_iff.mpr c6
  subst c6
  have H1 : (some (0, false)) = some (r1, r2) := by rw [if_neg (show ¬ (false = true) by decide)] at H; exact H
  clear H
  have H := H1
  clear H1
  simp only [Option.some.injEq, Prod.mk.injEq] at H
  obtain ⟨rfl, rfl⟩ := H
  go_enter Try.func37, Try.ntmps37
  go_wp2_with (first | ((with_reducible refine gate_dst (N := 4) rfl ?_); refine bE 4 #[.int .i64 a0_0, .int .i64 a0_1] 24 ?_; intro gb291 hg w19 hbox hb; have BK291 := Aside0.mk (hbox); have GE291 := gw hg (hz0 HB); have GW291 := GE291; replace HB := hbb (hz0 HB) hb; clear hb hbox hg) | ((with_reducible refine gate_dst (N := 5) rfl ?_); refine bE 5 #[.int .i64 a1_0, .int .i64 a1_1] 24 ?_; intro gb292 hg w20 hbox hb; have BK292 := Aside0.mk (hbox); have GE292 := gw hg (hzs HB); have GW292 := GE292; have NB291_292 := nl hg (bk BK291); have NB292_291 := ng hg (bk BK291); replace BK291 := bb (bk BK291) hb; replace HB := hbb (hzs HB) hb; clear hb hbox hg; have hnb21 := NB291_292.out; have hnc21 := NB292_291.out; obtain ⟨hcz22_0, hcz22_1, hfz22_0, hfz22_1⟩ := cz2 BK291; obtain ⟨hcz23_0, hcz23_1, hfz23_0, hfz23_1⟩ := cz2 BK292) | ((with_reducible refine gate_callee (f := 36) rfl ?_); refine gL 15 Try.func36 #[.agg #[.int .i64 a0_0, .int .i64 a0_1], .agg #[.int .i64 a1_0, .int .i64 a1_1]] ?_; (with_reducible refine (spec_SpotDist.calls k a0_0 a0_1 a1_0 a1_1 t293 t294 false _ A5.out).mono ?_); rintro e w24 ⟨rfl, hb⟩; refine ⟨_, rfl, ?_⟩; replace BK291 := bb (bk BK291) hb; replace BK292 := bb (bk BK292) hb; replace HB := hbb (hzs HB) hb; clear hb) | ((with_reducible refine gate_dst (N := 10) rfl ?_); refine bE 10 #[.int .i64 0, .int .i64 0] 29 ?_; intro gb296 hg w25 hbox hb; have BK296 := Aside0.mk (hbox); have GE296 := gw hg (hzs HB); have GW296 := GE296; have NB291_296 := nl hg (bk BK291); have NB296_291 := ng hg (bk BK291); have NB292_296 := nl hg (bk BK292); have NB296_292 := ng hg (bk BK292); replace BK291 := bb (bk BK291) hb; replace BK292 := bb (bk BK292) hb; replace HB := hbb (hzs HB) hb; clear hb hbox hg; have hnb26 := NB296_291.out; have hnc26 := NB291_296.out; have hnb27 := NB296_292.out; have hnc27 := NB292_296.out; obtain ⟨hcz28_0, hcz28_1, hfz28_0, hfz28_1⟩ := cz2 BK296))
  go_ret2
  exact ⟨by first | rfl | (simp [errW_none, errW_some] <;> rfl) | (simp [*, errW_none, errW_some] <;> rfl), hzs HB⟩


end Go.Proofs.Ytmcippkpgmehdaa.M
