import Derived.Test.YtlodpfddimeffaaM0
import Derived.Test.YtlodpfddimeffaaNa
import Derived.Test.YtlodpfddimeffaaNg
namespace Go.Proofs.Ytlodpfddimeffaa.M
open Go.RowKit Go.Proofs.YtlodpfddimeffaaW.PrintWords Go.Proofs.YtlodpfddimeffaaW.PrintLast Go.Proofs.YtlodpfddimeffaaW.PrintMore
attribute [local go_sem] max2_int min2_int max_two min_two max_three min_three max_four min_four
attribute [local go_sem high] eqA31
attribute [local go_sem] fld31_0 fld31_1 fld25_0 fld25_1 fld25_2 fld25_3
set_option linter.unusedVariables false
set_option linter.unusedSimpArgs false

/-! ### spec_l1Even: function 85 -/
def spec_l1Even.f (a0 : Int) (a1 : Int) : Option (Int) := (spec_l1Down.f a0 a1).bind fun t296 => (if (wrap64 (a0 - (wrap64 (t296 * a1)))) > (wrap64 (a1 - (wrap64 (a0 - (wrap64 (t296 * a1)))))) then (some (wrap64 (t296 + 1))) else (if (wrap64 (a0 - (wrap64 (t296 * a1)))) = (wrap64 (a1 - (wrap64 (a0 - (wrap64 (t296 * a1)))))) then (if (Int.tmod t296 2) = 0 then (some t296) else (some (wrap64 (t296 + 1)))) else (some t296)))
set_option maxHeartbeats 8000000 in
set_option maxRecDepth 100000 in
theorem spec_l1Even.calls (a0 : Int) (a1 : Int) (r : Int) (w : World) (h : spec_l1Even.f a0 a1 = some r) :
  Calls Try.prog 85 #[.int .i64 a0, .int .i64 a1] w fun e w' => e = .returned (.int .i64 r) ∧ Drawn0 w w' := by
 have H := h
 clear h
 unfold spec_l1Even.f at H
 replace H := Option.bind_eq_some_iff.mp H
 obtain ⟨t296, A30, H⟩ := H
 try dsimp only at H
 have A3 := Aside0.mk A30
 clear A30
 by_cases c4 : (wrap64 (a0 - (wrap64 (t296 * a1)))) > (wrap64 (a1 - (wrap64 (a0 - (wrap64 (t296 * a1))))))
 ·rw [if_pos c4] at H
  have c4b0 : decide ((wrap64 (a1 - (wrap64 (a0 - (wrap64 (t296 * a1)))))) < (wrap64 (a0 - (wrap64 (t296 * a1))))) = true := decide_eq_true c4
  clear c4
  obtain rfl := Option.some.inj H
  go_enter Try.func85, Try.ntmps85
  go_wp2_with (first | ((with_reducible refine gate_callee (f := 83) rfl ?_); refine gL 9 Try.func83 #[.int .i64 a0, .int .i64 a1] ?_; (with_reducible refine (spec_l1Down.calls a0 a1 t296 _ A3.out).mono ?_); rintro e w' ⟨rfl, ⟨nd, rfl⟩⟩; refine ⟨_, rfl, ?_⟩))
  go_ret
  exact ⟨by first | rfl | (simp; done) | (simp [*]; done), by repeat (first | exact Drawn0.refl _ | apply Drawn0.step)⟩
 ·rw [if_neg c4] at H
  have c4b0 : decide ((wrap64 (a1 - (wrap64 (a0 - (wrap64 (t296 * a1)))))) < (wrap64 (a0 - (wrap64 (t296 * a1))))) = false := decide_eq_false c4
  clear c4
  by_cases c5 : (wrap64 (a0 - (wrap64 (t296 * a1)))) = (wrap64 (a1 - (wrap64 (a0 - (wrap64 (t296 * a1))))))
  ·rw [if_pos c5] at H
   have c5b0 : ((wrap64 (a0 - (wrap64 (t296 * a1)))) == (wrap64 (a1 - (wrap64 (a0 - (wrap64 (t296 * a1))))))) = true := beq_iff_eq.mpr c5
   have c5b1 : ((wrap64 (a0 - (wrap64 (t296 * a1)))) != (wrap64 (a1 - (wrap64 (a0 - (wrap64 (t296 * a1))))))) = false := bne_eq_false_iff_eq.mpr c5
   clear c5
   by_cases c6 : (Int.tmod t296 2) = 0
   ·rw [if_pos c6] at H
    have c6b0 : ((Int.tmod t296 2) == 0) = true := beq_iff_eq.mpr c6
    have c6b1 : ((Int.tmod t296 2) != 0) = false := bne_eq_false_iff_eq.mpr c6
    clear c6
    obtain rfl := Option.some.inj H
    go_enter Try.func85, Try.ntmps85
    go_wp2_with (first | ((with_reducible refine gate_callee (f := 83) rfl ?_); refine gL 9 Try.func83 #[.int .i64 a0, .int .i64 a1] ?_; (with_reducible refine (spec_l1Down.calls a0 a1 t296 _ A3.out).mono ?_); rintro e w' ⟨rfl, ⟨nd, rfl⟩⟩; refine ⟨_, rfl, ?_⟩))
    go_ret
    exact ⟨by first | rfl | (simp; done) | (simp [*]; done), by repeat (first | exact Drawn0.refl _ | apply Drawn0.step)⟩
   ·rw [if_neg c6] at H
    have c6b0 : ((Int.tmod t296 2) == 0) = false := beq_eq_false_iff_ne.mpr c6
    have c6b1 : ((Int.tmod t296 2) != 0) = true := bne_iff_ne.mpr c6
    obtain rfl := Option.some.inj H
    go_enter Try.func85, Try.ntmps85
    go_wp2_with (first | ((with_reducible refine gate_callee (f := 83) rfl ?_); refine gL 9 Try.func83 #[.int .i64 a0, .int .i64 a1] ?_; (with_reducible refine (spec_l1Down.calls a0 a1 t296 _ A3.out).mono ?_); rintro e w' ⟨rfl, ⟨nd, rfl⟩⟩; refine ⟨_, rfl, ?_⟩))
    go_ret
    exact ⟨by first | rfl | (simp; done) | (simp [*]; done), by repeat (first | exact Drawn0.refl _ | apply Drawn0.step)⟩
  ·rw [if_neg c5] at H
   have c5b0 : ((wrap64 (a0 - (wrap64 (t296 * a1)))) == (wrap64 (a1 - (wrap64 (a0 - (wrap64 (t296 * a1))))))) = false := beq_eq_false_iff_ne.mpr c5
   have c5b1 : ((wrap64 (a0 - (wrap64 (t296 * a1)))) != (wrap64 (a1 - (wrap64 (a0 - (wrap64 (t296 * a1))))))) = true := bne_iff_ne.mpr c5
   obtain rfl := Option.some.inj H
   go_enter Try.func85, Try.ntmps85
   go_wp2_with (first | ((with_reducible refine gate_callee (f := 83) rfl ?_); refine gL 9 Try.func83 #[.int .i64 a0, .int .i64 a1] ?_; (with_reducible refine (spec_l1Down.calls a0 a1 t296 _ A3.out).mono ?_); rintro e w' ⟨rfl, ⟨nd, rfl⟩⟩; refine ⟨_, rfl, ?_⟩))
   go_ret
   exact ⟨by first | rfl | (simp; done) | (simp [*]; done), by repeat (first | exact Drawn0.refl _ | apply Drawn0.step)⟩


/-! ### spec_l1Round: function 58 -/
def spec_l1Round.f (a0 : Int) (a1 : Int) (a2 : Int) : Option (Int) := if a2 = 1 then ((spec_l1Down.f a0 a1).bind fun t297 => (some t297)) else (if a2 = 2 then ((spec_l1Up.f a0 a1).bind fun t298 => (some t298)) else (if a2 = 3 then (if a0 < 0 then ((spec_l1Up.f a0 a1).bind fun t299 => (some t299)) else ((spec_l1Down.f a0 a1).bind fun t300 => (some t300))) else ((spec_l1Even.f a0 a1).bind fun t301 => (some t301))))
set_option maxHeartbeats 8000000 in
set_option maxRecDepth 100000 in
theorem spec_l1Round.calls (a0 : Int) (a1 : Int) (a2 : Int) (r : Int) (w : World) (h : spec_l1Round.f a0 a1 a2 = some r) :
  Calls Try.prog 58 #[.int .i64 a0, .int .i64 a1, .int .i64 a2] w fun e w' => e = .returned (.int .i64 r) ∧ Drawn0 w w' := by
 have H := h
 clear h
 unfold spec_l1Round.f at H
 by_cases c4 : a2 = 1
 ·rw [if_pos c4] at H
  have c4b0 : (a2 == 1) = true := beq_iff_eq.mpr c4
  have c4b1 : (a2 != 1) = false := bne_eq_false_iff_eq.mpr c4
  clear c4
  replace H := Option.bind_eq_some_iff.mp H
  obtain ⟨t297, A50, H⟩ := H
  try dsimp only at H
  have A5 := Aside0.mk A50
  clear A50
  obtain rfl := Option.some.inj H
  go_enter Try.func58, Try.ntmps58
  go_wp2_with (first | ((with_reducible refine gate_callee (f := 83) rfl ?_); refine gL 12 Try.func83 #[.int .i64 a0, .int .i64 a1] ?_; (with_reducible refine (spec_l1Down.calls a0 a1 t297 _ A5.out).mono ?_); rintro e w' ⟨rfl, ⟨nd, rfl⟩⟩; refine ⟨_, rfl, ?_⟩))
  go_ret
  exact ⟨by first | rfl | (simp; done) | (simp [*]; done), by repeat (first | exact Drawn0.refl _ | apply Drawn0.step)⟩
 ·rw [if_neg c4] at H
  have c4b0 : (a2 == 1) = false := beq_eq_false_iff_ne.mpr c4
  have c4b1 : (a2 != 1) = true := bne_iff_ne.mpr c4
  by_cases c6 : a2 = 2
  ·rw [if_pos c6] at H
   have c6b0 : (a2 == 2) = true := beq_iff_eq.mpr c6
   have c6b1 : (a2 != 2) = false := bne_eq_false_iff_eq.mpr c6
   clear c6
   replace H := Option.bind_eq_some_iff.mp H
   obtain ⟨t298, A70, H⟩ := H
   try dsimp only at H
   have A7 := Aside0.mk A70
   clear A70
   obtain rfl := Option.some.inj H
   go_enter Try.func58, Try.ntmps58
   go_wp2_with (first | ((with_reducible refine gate_callee (f := 84) rfl ?_); refine gL 17 Try.func84 #[.int .i64 a0, .int .i64 a1] ?_; (with_reducible refine (spec_l1Up.calls a0 a1 t298 _ A7.out).mono ?_); rintro e w' ⟨rfl, ⟨nd, rfl⟩⟩; refine ⟨_, rfl, ?_⟩))
   go_ret
   exact ⟨by first | rfl | (simp; done) | (simp [*]; done), by repeat (first | exact Drawn0.refl _ | apply Drawn0.step)⟩
  ·rw [if_neg c6] at H
   have c6b0 : (a2 == 2) = false := beq_eq_false_iff_ne.mpr c6
   have c6b1 : (a2 != 2) = true := bne_iff_ne.mpr c6
   by_cases c8 : a2 = 3
   ·rw [if_pos c8] at H
    have c8b0 : (a2 == 3) = true := beq_iff_eq.mpr c8
    have c8b1 : (a2 != 3) = false := bne_eq_false_iff_eq.mpr c8
    clear c8
    by_cases c9 : a0 < 0
    ·rw [if_pos c9] at H
     have c9b0 : decide (a0 < 0) = true := decide_eq_true c9
     clear c9
     replace H := Option.bind_eq_some_iff.mp H
     obtain ⟨t299, A100, H⟩ := H
     try dsimp only at H
     have A10 := Aside0.mk A100
     clear A100
     obtain rfl := Option.some.inj H
     go_enter Try.func58, Try.ntmps58
     go_wp2_with (first | ((with_reducible refine gate_callee (f := 84) rfl ?_); refine gL 24 Try.func84 #[.int .i64 a0, .int .i64 a1] ?_; (with_reducible refine (spec_l1Up.calls a0 a1 t299 _ A10.out).mono ?_); rintro e w' ⟨rfl, ⟨nd, rfl⟩⟩; refine ⟨_, rfl, ?_⟩))
     go_ret
     exact ⟨by first | rfl | (simp; done) | (simp [*]; done), by repeat (first | exact Drawn0.refl _ | apply Drawn0.step)⟩
    ·rw [if_neg c9] at H
     have c9b0 : decide (a0 < 0) = false := decide_eq_false c9
     clear c9
     replace H := Option.bind_eq_some_iff.mp H
     obtain ⟨t300, A110, H⟩ := H
     try dsimp only at H
     have A11 := Aside0.mk A110
     clear A110
     obtain rfl := Option.some.inj H
     go_enter Try.func58, Try.ntmps58
     go_wp2_with (first | ((with_reducible refine gate_callee (f := 83) rfl ?_); refine gL 27 Try.func83 #[.int .i64 a0, .int .i64 a1] ?_; (with_reducible refine (spec_l1Down.calls a0 a1 t300 _ A11.out).mono ?_); rintro e w' ⟨rfl, ⟨nd, rfl⟩⟩; refine ⟨_, rfl, ?_⟩))
     go_ret
     exact ⟨by first | rfl | (simp; done) | (simp [*]; done), by repeat (first | exact Drawn0.refl _ | apply Drawn0.step)⟩
   ·rw [if_neg c8] at H
    have c8b0 : (a2 == 3) = false := beq_eq_false_iff_ne.mpr c8
    have c8b1 : (a2 != 3) = true := bne_iff_ne.mpr c8
    replace H := Option.bind_eq_some_iff.mp H
    obtain ⟨t301, A120, H⟩ := H
    try dsimp only at H
    have A12 := Aside0.mk A120
    clear A120
    obtain rfl := Option.some.inj H
    go_enter Try.func58, Try.ntmps58
    go_wp2_with (first | ((with_reducible refine gate_callee (f := 85) rfl ?_); refine gL 30 Try.func85 #[.int .i64 a0, .int .i64 a1] ?_; (with_reducible refine (spec_l1Even.calls a0 a1 t301 _ A12.out).mono ?_); rintro e w' ⟨rfl, ⟨nd, rfl⟩⟩; refine ⟨_, rfl, ?_⟩))
    go_ret
    exact ⟨by first | rfl | (simp; done) | (simp [*]; done), by repeat (first | exact Drawn0.refl _ | apply Drawn0.step)⟩


/-! ### spec_SureRound: function 40 -/
def spec_SureRound.j0 : Nat → Int → Int → Bool → Int → Int → Option (Int × Bool)
 | 0, _, _, _, _, _ => none
 | k + 1, x1, x2, x22, x303000, x303001 => if x22 = true then (some (0, false)) else ((spec_l1Round.f x303000 x1 x2).bind fun t306 => ((spec_l1Round.f x303001 x1 x2).bind fun t307 => (if t306 = t307 then (some (t306, true)) else (some (0, false)))))
def spec_SureRound.f (k : Nat) (a0_0 : Int) (a0_1 : Int) (a1 : Int) (a2 : Int) : Option (Int × Bool) := (spec_SpanOk.f a0_0 a0_1).bind fun t303 => (if t303 = true then ((spec_l6In.f a1 1 1000000000).bind fun t304 => (if t304 = true then ((spec_l6In.f a2 1 4).bind fun t305 => (spec_SureRound.j0 k a1 a2 (!t305) a0_0 a0_1)) else (spec_SureRound.j0 k a1 a2 true a0_0 a0_1))) else (spec_SureRound.j0 k a1 a2 true a0_0 a0_1))
set_option maxHeartbeats 8000000 in
set_option maxRecDepth 100000 in
theorem spec_SureRound.calls (k : Nat) (a0_0 : Int) (a0_1 : Int) (a1 : Int) (a2 : Int) (r1 : Int) (r2 : Bool) (w : World) (h : spec_SureRound.f k a0_0 a0_1 a1 a2 = some (r1, r2)) :
  Calls Try.prog 40 #[.agg #[.int .i64 a0_0, .int .i64 a0_1], .int .i64 a1, .int .i64 a2] w fun e w' => e = .returned (.tuple #[.int .i64 r1, .bool r2]) ∧ Below w.heap.size w w' := by
 have hu31 := Try.underlying31
 have HB := Aside0.mk (Below.refl w.heap.size w)
 have H := h
 clear h
 unfold spec_SureRound.f at H
 have HC4 := Aside0.mk H
 clear H
 go_enter Try.func40, Try.ntmps40
 go_upto_region 1 with (first | ((with_reducible refine gate_dst (N := 3) rfl ?_); refine bE 3 #[.int .i64 a0_0, .int .i64 a0_1] 31 ?_; intro gb302 hg w5 hbox hb; have BK302 := Aside0.mk (hbox); have GE302 := gw hg (hz0 HB); replace HB := hbb (hz0 HB) hb; clear hb hbox hg))
 (try simp only [Act.put, List.setIfInBounds_toArray, List.set_cons_zero, List.set_cons_succ])
 go_cut [22] (fun v22 wc => ∃ (kq : Nat) (x22_3 : Bool), v22 = .bool x22_3 ∧ Aside0 (spec_SureRound.j0 kq a1 a2 x22_3 a0_0 a0_1 = some (r1, r2)) ∧ Aside0 (kq ≤ k) ∧ Aside0 (wc.heap[gb302]? = some (.cells #[.int .i64 a0_0, .int .i64 a0_1] 31 (0, 0))) ∧ Aside0 (Below w.heap.size w wc))
 case first =>
  have H := HC4.out
  clear HC4
  replace H := Option.bind_eq_some_iff.mp H
  obtain ⟨t303, A60, H⟩ := H
  try dsimp only at H
  have A6 := Aside0.mk A60
  clear A60
  by_cases c7 : t303 = true
  ·subst c7
   rw [if_pos rfl] at H
   replace H := Option.bind_eq_some_iff.mp H
   obtain ⟨t304, A80, H⟩ := H
   try dsimp only at H
   have A8 := Aside0.mk A80
   clear A80
   by_cases c9 : t304 = true
   ·subst c9
    rw [if_pos rfl] at H
    replace H := Option.bind_eq_some_iff.mp H
    obtain ⟨t305, A100, H⟩ := H
    try dsimp only at H
    have A10 := Aside0.mk A100
    clear A100
    have H' := Aside0.mk H
    clear H
    obtain ⟨hcz11_0, hcz11_1, hfz11_0, hfz11_1⟩ := cz2 BK302
    go_wp2_with (first | ((with_reducible refine gate_callee (f := 56) rfl ?_); refine gL 11 Try.func56 #[.agg #[.int .i64 a0_0, .int .i64 a0_1]] ?_; (with_reducible refine (spec_SpanOk.calls a0_0 a0_1 true _ A6.out).mono ?_); rintro e w12 ⟨rfl, hb⟩; refine ⟨_, rfl, ?_⟩; replace BK302 := bb (bk BK302) hb; replace HB := hbb (hzs HB) hb; clear hb) | (go_at_call 57; (with_reducible refine (spec_l6In.calls a1 1 1000000000 true _ A8.out).mono ?_); rintro e w' ⟨rfl, ⟨nd, rfl⟩⟩) | (go_at_call 57; (with_reducible refine (spec_l6In.calls a2 1 4 t305 _ A10.out).mono ?_); rintro e w' ⟨rfl, ⟨nd, rfl⟩⟩))
    go_meet
    case rel => exact ⟨_, (!t305), (by first | rfl | (simp; done) | (simp [*]; done)), H', ⟨by first | omega | exact Nat.le_refl _⟩, ⟨bk BK302⟩, ⟨hzs HB⟩⟩
   ·replace c9 := Bool.eq_false_iff.mpr c9
    subst c9
    rw [if_neg (show ¬ (false = true) by decide)] at H
    have H' := Aside0.mk H
    clear H
    obtain ⟨hcz13_0, hcz13_1, hfz13_0, hfz13_1⟩ := cz2 BK302
    go_wp2_with (first | ((with_reducible refine gate_callee (f := 56) rfl ?_); refine gL 11 Try.func56 #[.agg #[.int .i64 a0_0, .int .i64 a0_1]] ?_; (with_reducible refine (spec_SpanOk.calls a0_0 a0_1 true _ A6.out).mono ?_); rintro e w14 ⟨rfl, hb⟩; refine ⟨_, rfl, ?_⟩; replace BK302 := bb (bk BK302) hb; replace HB := hbb (hzs HB) hb; clear hb) | (go_at_call 57; (with_reducible refine (spec_l6In.calls a1 1 1000000000 false _ A8.out).mono ?_); rintro e w' ⟨rfl, ⟨nd, rfl⟩⟩))
    go_meet
    case rel => exact ⟨_, (true), (by first | rfl | (simp; done) | (simp [*]; done)), H', ⟨by first | omega | exact Nat.le_refl _⟩, ⟨bk BK302⟩, ⟨hzs HB⟩⟩
  ·replace c7 := Bool.eq_false_iff.mpr c7
   subst c7
   rw [if_neg (show ¬ (false = true) by decide)] at H
   have H' := Aside0.mk H
   clear H
   obtain ⟨hcz15_0, hcz15_1, hfz15_0, hfz15_1⟩ := cz2 BK302
   go_wp2_with (first | ((with_reducible refine gate_callee (f := 56) rfl ?_); refine gL 11 Try.func56 #[.agg #[.int .i64 a0_0, .int .i64 a0_1]] ?_; (with_reducible refine (spec_SpanOk.calls a0_0 a0_1 false _ A6.out).mono ?_); rintro e w16 ⟨rfl, hb⟩; refine ⟨_, rfl, ?_⟩; replace BK302 := bb (bk BK302) hb; replace HB := hbb (hzs HB) hb; clear hb))
   go_meet
   case rel => exact ⟨_, (true), (by first | rfl | (simp; done) | (simp [*]; done)), H', ⟨by first | omega | exact Nat.le_refl _⟩, ⟨bk BK302⟩, ⟨hzs HB⟩⟩
 case rest =>
  clear HC4
  try clear p2
  try clear c4
  try clear c5
  try clear c7
  try clear c9
  try clear hcz11_0 hcz11_1
  try clear hcz13_0 hcz13_1
  try clear hcz15_0 hcz15_1
  try clear hfz11_0 hfz11_1
  try clear hfz13_0 hfz13_1
  try clear hfz15_0 hfz15_1
  obtain ⟨kq, x22_3, rfl, HA, HJ3, BK302, HB⟩ := hcut
  cases kq with
  | zero => exact absurd HA.out (by simp [spec_SureRound.j0])
  | succ kj3 =>
   have H := HA.out
   clear HA
   simp only [spec_SureRound.j0] at H
   by_cases c17 : x22_3 = true
   ·subst c17
    rw [if_pos rfl] at H
    simp only [Option.some.injEq, Prod.mk.injEq] at H
    obtain ⟨rfl, rfl⟩ := H
    go_wp2
    go_ret2
    exact ⟨by first | rfl | (simp [errW_none, errW_some] <;> rfl) | (simp [*, errW_none, errW_some] <;> rfl), hzs HB⟩
   ·replace c17 := Bool.eq_false_iff.mpr c17
    subst c17
    rw [if_neg (show ¬ (false = true) by decide)] at H
    replace H := Option.bind_eq_some_iff.mp H
    obtain ⟨t306, A180, H⟩ := H
    try dsimp only at H
    have A18 := Aside0.mk A180
    clear A180
    replace H := Option.bind_eq_some_iff.mp H
    obtain ⟨t307, A190, H⟩ := H
    try dsimp only at H
    have A19 := Aside0.mk A190
    clear A190
    by_cases c20 : t306 = t307
    ·rw [if_pos c20] at H
     have c20b0 : (t306 == t307) = true := beq_iff_eq.mpr c20
     have c20b1 : (t306 != t307) = false := bne_eq_false_iff_eq.mpr c20
     clear c20
     simp only [Option.some.injEq, Prod.mk.injEq] at H
     obtain ⟨rfl, rfl⟩ := H
     obtain ⟨hcz21_0, hcz21_1, hfz21_0, hfz21_1⟩ := cz2 BK302
     go_wp2_with (first | ((with_reducible refine gate_callee (f := 58) rfl ?_); refine gL 27 Try.func58 #[.int .i64 a0_0, .int .i64 a1, .int .i64 a2] ?_; (with_reducible refine (spec_l1Round.calls a0_0 a1 a2 t306 _ A18.out).mono ?_); rintro e w' ⟨rfl, ⟨nd, rfl⟩⟩; refine ⟨_, rfl, ?_⟩) | ((with_reducible refine gate_callee (f := 58) rfl ?_); refine gL 32 Try.func58 #[.int .i64 a0_1, .int .i64 a1, .int .i64 a2] ?_; (with_reducible refine (spec_l1Round.calls a0_1 a1 a2 t307 _ A19.out).mono ?_); rintro e w' ⟨rfl, ⟨nd, rfl⟩⟩; refine ⟨_, rfl, ?_⟩))
     go_ret2
     exact ⟨by first | rfl | (simp [errW_none, errW_some] <;> rfl) | (simp [*, errW_none, errW_some] <;> rfl), hzs HB⟩
    ·rw [if_neg c20] at H
     have c20b0 : (t306 == t307) = false := beq_eq_false_iff_ne.mpr c20
     have c20b1 : (t306 != t307) = true := bne_iff_ne.mpr c20
     simp only [Option.some.injEq, Prod.mk.injEq] at H
     obtain ⟨rfl, rfl⟩ := H
     obtain ⟨hcz22_0, hcz22_1, hfz22_0, hfz22_1⟩ := cz2 BK302
     go_wp2_with (first | ((with_reducible refine gate_callee (f := 58) rfl ?_); refine gL 27 Try.func58 #[.int .i64 a0_0, .int .i64 a1, .int .i64 a2] ?_; (with_reducible refine (spec_l1Round.calls a0_0 a1 a2 t306 _ A18.out).mono ?_); rintro e w' ⟨rfl, ⟨nd, rfl⟩⟩; refine ⟨_, rfl, ?_⟩) | ((with_reducible refine gate_callee (f := 58) rfl ?_); refine gL 32 Try.func58 #[.int .i64 a0_1, .int .i64 a1, .int .i64 a2] ?_; (with_reducible refine (spec_l1Round.calls a0_1 a1 a2 t307 _ A19.out).mono ?_); rintro e w' ⟨rfl, ⟨nd, rfl⟩⟩; refine ⟨_, rfl, ?_⟩))
     go_ret2
     exact ⟨by first | rfl | (simp [errW_none, errW_some] <;> rfl) | (simp [*, errW_none, errW_some] <;> rfl), hzs HB⟩


/-! ### spec_ExprRound: function 16 -/
def spec_ExprRound.f (k : Nat) (a0_0 : Int) (a0_1 : Int) (a0_2 : Int) (l0_3 : List (S25)) (a1 : Int) (a2 : Int) : Option (Int × Bool) := (spec_ExprSpan.f k a0_0 a0_1 a0_2 l0_3).bind fun bt309 => (if bt309.2.2 = true then ((spec_SureRound.f k bt309.1 bt309.2.1 a1 a2).bind fun bt313 => (some (bt313.1, bt313.2))) else (some (0, false)))
set_option maxHeartbeats 8000000 in
set_option maxRecDepth 100000 in
theorem spec_ExprRound.calls (k : Nat) (a0_0 : Int) (a0_1 : Int) (a0_2 : Int) (A0_3 : Option Addr) (c0_3 : Nat) (l0_3 : List (S25)) (a1 : Int) (a2 : Int) (r1 : Int) (r2 : Bool) (w : World) (hr0_3 : Kd.C k25 w A0_3 l0_3.length l0_3) (hc0_3 : l0_3.length ≤ c0_3) (h : spec_ExprRound.f k a0_0 a0_1 a0_2 l0_3 a1 a2 = some (r1, r2)) :
  Calls Try.prog 16 #[.agg #[.int .i64 a0_0, .int .i64 a0_1, .int .i64 a0_2, .slice A0_3 l0_3.length c0_3], .int .i64 a1, .int .i64 a2] w fun e w' => e = .returned (.tuple #[.int .i64 r1, .bool r2]) ∧ Below w.heap.size w w' := by
 have hu25 := Try.underlying25
 have hu31 := Try.underlying31
 have HR0_3 := Aside0.mk hr0_3
 have HC0_3 := Aside0.mk hc0_3
 clear hr0_3 hc0_3
 have HB := Aside0.mk (Below.refl w.heap.size w)
 have H := h
 clear h
 unfold spec_ExprRound.f at H
 replace H := Option.bind_eq_some_iff.mp H
 obtain ⟨⟨t309, t310, t311⟩, A40, H⟩ := H
 try dsimp only at H
 have A4 := Aside0.mk A40
 clear A40
 by_cases c5 : t311 = true
 ·subst c5
  rw [if_pos rfl] at H
  replace H := Option.bind_eq_some_iff.mp H
  obtain ⟨⟨t313, t314⟩, A60, H⟩ := H
  try dsimp only at H
  have A6 := Aside0.mk A60
  clear A60
  simp only [Option.some.injEq, Prod.mk.injEq] at H
  obtain ⟨rfl, rfl⟩ := H
  go_enter Try.func16, Try.ntmps16
  go_wp2_with (first | ((with_reducible refine gate_dst (N := 3) rfl ?_); refine bE 3 #[.int .i64 a0_0, .int .i64 a0_1, .int .i64 a0_2, .slice A0_3 l0_3.length c0_3] 25 ?_; intro gb308 hg w7 hbox hb; have BK308 := Aside0.mk (hbox); have GE308 := gw hg (hz0 HB); have GW308 := GE308; replace HB := hbb (hz0 HB) hb; clear hb hbox hg; obtain ⟨hcz8_0, hcz8_1, hcz8_2, hcz8_3, hfz8_0, hfz8_1, hfz8_2, hfz8_3⟩ := cz4 BK308) | ((with_reducible refine gate_callee (f := 31) rfl ?_); refine gL 12 Try.func31 #[.agg #[.int .i64 a0_0, .int .i64 a0_1, .int .i64 a0_2, .slice A0_3 l0_3.length c0_3]] ?_; (with_reducible refine (spec_ExprSpan.calls k a0_0 a0_1 a0_2 _ _ l0_3 t309 t310 true _ ?side1 ?side2 A4.out).mono ?_); (case side1 => repeat (first | exact (Kd.C_below HR0_3.out HB.out) | (with_reducible refine Kd.C_alloc ?_ _) | (with_reducible refine Kd.C_drewN ?_ _) | (with_reducible refine Kd.C_drew ?_))); (case side2 => exact HC0_3.out); rintro e w9 ⟨rfl, hb⟩; refine ⟨_, rfl, ?_⟩; replace BK308 := bb (bk BK308) hb; replace HB := hbb (hzs HB) hb; clear hb) | ((with_reducible refine gate_dst (N := 8) rfl ?_); refine bE 8 #[.int .i64 0, .int .i64 0] 31 ?_; intro gb312 hg w10 hbox hb; have BK312 := Aside0.mk (hbox); have GE312 := gw hg (hzs HB); have GW312 := GE312; have NB308_312 := nl hg (bk BK308); have NB312_308 := ng hg (bk BK308); replace BK308 := bb (bk BK308) hb; replace HB := hbb (hzs HB) hb; clear hb hbox hg; have hnb11 := NB312_308.out; have hnc11 := NB308_312.out; obtain ⟨hcz12_0, hcz12_1, hfz12_0, hfz12_1⟩ := cz2 BK312) | ((with_reducible refine gate_callee (f := 40) rfl ?_); refine gL 20 Try.func40 #[.agg #[.int .i64 t309, .int .i64 t310], .int .i64 a1, .int .i64 a2] ?_; (with_reducible refine (spec_SureRound.calls k t309 t310 a1 a2 t313 t314 _ A6.out).mono ?_); rintro e w13 ⟨rfl, hb⟩; refine ⟨_, rfl, ?_⟩; replace BK308 := bb (bk1 BK308 NB308_312) hb; replace BK312 := bb (o := .cells #[.int .i64 t309, .int .i64 t310] 31 (0, 0)) (bkp BK312) hb; replace HB := hbb (hzs HB) hb; clear hb))
  go_ret2
  exact ⟨by first | rfl | (simp [errW_none, errW_some] <;> rfl) | (simp [*, errW_none, errW_some] <;> rfl), hzs HB⟩
 ·replace c5 := Bool.eq_false_iff.mpr c5
  subst c5
  rw [if_neg (show ¬ (false = true) by decide)] at H
  simp only [Option.some.injEq, Prod.mk.injEq] at H
  obtain ⟨rfl, rfl⟩ := H
  go_enter Try.func16, Try.ntmps16
  go_wp2_with (first | ((with_reducible refine gate_dst (N := 3) rfl ?_); refine bE 3 #[.int .i64 a0_0, .int .i64 a0_1, .int .i64 a0_2, .slice A0_3 l0_3.length c0_3] 25 ?_; intro gb308 hg w14 hbox hb; have BK308 := Aside0.mk (hbox); have GE308 := gw hg (hz0 HB); have GW308 := GE308; replace HB := hbb (hz0 HB) hb; clear hb hbox hg; obtain ⟨hcz15_0, hcz15_1, hcz15_2, hcz15_3, hfz15_0, hfz15_1, hfz15_2, hfz15_3⟩ := cz4 BK308) | ((with_reducible refine gate_callee (f := 31) rfl ?_); refine gL 12 Try.func31 #[.agg #[.int .i64 a0_0, .int .i64 a0_1, .int .i64 a0_2, .slice A0_3 l0_3.length c0_3]] ?_; (with_reducible refine (spec_ExprSpan.calls k a0_0 a0_1 a0_2 _ _ l0_3 t309 t310 false _ ?side1 ?side2 A4.out).mono ?_); (case side1 => repeat (first | exact (Kd.C_below HR0_3.out HB.out) | (with_reducible refine Kd.C_alloc ?_ _) | (with_reducible refine Kd.C_drewN ?_ _) | (with_reducible refine Kd.C_drew ?_))); (case side2 => exact HC0_3.out); rintro e w16 ⟨rfl, hb⟩; refine ⟨_, rfl, ?_⟩; replace BK308 := bb (bk BK308) hb; replace HB := hbb (hzs HB) hb; clear hb) | ((with_reducible refine gate_dst (N := 8) rfl ?_); refine bE 8 #[.int .i64 0, .int .i64 0] 31 ?_; intro gb312 hg w17 hbox hb; have BK312 := Aside0.mk (hbox); have GE312 := gw hg (hzs HB); have GW312 := GE312; have NB308_312 := nl hg (bk BK308); have NB312_308 := ng hg (bk BK308); replace BK308 := bb (bk BK308) hb; replace HB := hbb (hzs HB) hb; clear hb hbox hg; have hnb18 := NB312_308.out; have hnc18 := NB308_312.out; obtain ⟨hcz19_0, hcz19_1, hfz19_0, hfz19_1⟩ := cz2 BK312))
  go_ret2
  exact ⟨by first | rfl | (simp [errW_none, errW_some] <;> rfl) | (simp [*, errW_none, errW_some] <;> rfl), hzs HB⟩


end Go.Proofs.Ytlodpfddimeffaa.M
