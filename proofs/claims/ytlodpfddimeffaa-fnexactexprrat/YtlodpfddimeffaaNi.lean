import Derived.Test.YtlodpfddimeffaaM0
import Derived.Test.YtlodpfddimeffaaNa
import Derived.Test.YtlodpfddimeffaaNf
namespace Go.Proofs.Ytlodpfddimeffaa.M
open Go.RowKit Go.Proofs.YtlodpfddimeffaaW.PrintWords Go.Proofs.YtlodpfddimeffaaW.PrintLast Go.Proofs.YtlodpfddimeffaaW.PrintMore
attribute [local go_sem] max2_int min2_int max_two min_two max_three min_three max_four min_four
attribute [local go_sem high] eqA31
attribute [local go_sem] fld31_0 fld31_1 fld25_0 fld25_1 fld25_2 fld25_3
set_option linter.unusedVariables false
set_option linter.unusedSimpArgs false

/-! ### spec_l31Gcd: function 91 -/
def spec_l31Gcd.l0 : Nat → Int → Int → Option (Int)
 | 0, _, _ => none
 | k + 1, x0, x1 => if x1 > 0 then (if x1 = 0 then (none) else (spec_l31Gcd.l0 k x1 (Int.tmod x0 x1))) else (some x0)
def spec_l31Gcd.f (k : Nat) (a0 : Int) (a1 : Int) : Option (Int) := spec_l31Gcd.l0 k a0 a1
set_option maxHeartbeats 8000000 in
set_option maxRecDepth 100000 in
theorem spec_l31Gcd.calls (k : Nat) (a0 : Int) (a1 : Int) (r : Int) (w : World) (h : spec_l31Gcd.f k a0 a1 = some r) :
  Calls Try.prog 91 #[.int .i64 a0, .int .i64 a1] w fun e w' => e = .returned (.int .i64 r) ∧ Drawn0 w w' := by
 have H := h
 clear h
 unfold spec_l31Gcd.f at H
 have H' := Aside0.mk H
 clear H
 go_enter Try.func91, Try.ntmps91
 go_wp2
 go_loopg [0, 1] k (fun kq v0 v1 w' => ∃ (x0_1 : Int) (x1_1 : Int), v0 = .int .i64 x0_1 ∧ v1 = .int .i64 x1_1 ∧ Aside0 (spec_l31Gcd.l0 kq x0_1 x1_1 = some r) ∧ Aside0 (kq ≤ k) ∧ Drawn0 w w')
 case atStart => exact ⟨(a0), (a1), (by first | rfl | (simp; done) | (simp [*]; done)), (by first | rfl | (simp; done) | (simp [*]; done)), H', ⟨Nat.le_refl _⟩, by repeat (first | exact Drawn0.refl _ | apply Drawn0.step)⟩
 case round =>
  clear H'
  try clear p2
  obtain ⟨x0_1, x1_1, rfl, rfl, HA, HK1, ⟨m1, rfl⟩⟩ := hrel
  cases gk with
  | zero => exact absurd HA.out (by simp [spec_l31Gcd.l0])
  | succ k1 =>
   have H := HA.out
   clear HA
   simp only [spec_l31Gcd.l0] at H
   by_cases c3 : x1_1 > 0
   ·rw [if_pos c3] at H
    have c3b0 : decide (0 < x1_1) = true := decide_eq_true c3
    clear c3
    by_cases c4 : x1_1 = 0
    ·rw [if_pos c4] at H
     exact absurd H (by simp)
    ·rw [if_neg c4] at H
     have c4b0 : (x1_1 == 0) = false := beq_eq_false_iff_ne.mpr c4
     have c4b1 : (x1_1 != 0) = true := bne_iff_ne.mpr c4
     have H' := Aside0.mk H
     clear H
     go_wp2
     go_roundg k1
     case measure => have := HK1.out; omega
     case rel => exact ⟨(x1_1), (Int.tmod x0_1 x1_1), (by first | rfl | (simp; done) | (simp [*]; done)), (by first | rfl | (simp; done) | (simp [*]; done)), H', ⟨by have := HK1.out; omega⟩, by repeat (first | exact Drawn0.refl _ | apply Drawn0.step)⟩
   ·rw [if_neg c3] at H
    have c3b0 : decide (0 < x1_1) = false := decide_eq_false c3
    clear c3
    obtain rfl := Option.some.inj H
    go_wp2
    go_ret
    exact ⟨by first | rfl | (simp; done) | (simp [*]; done), by repeat (first | exact Drawn0.refl _ | apply Drawn0.step)⟩


/-! ### spec_l31Least: function 69 -/
def spec_l31Least.j0 : Nat → Int → Int → Option (Int × Int × Bool)
 | 0, _, _ => none
 | k + 1, x0, x1 => (spec_l31Gcd.f k (mx x0 (wrap64 (-x0))) x1).bind fun t129 => (if (mx t129 1) = 0 then (none) else ((spec_l6In.f (wrap64 (Int.tdiv x0 (mx t129 1))) (-1000000000) 1000000000).bind fun t130 => (if t130 = true then (if (wrap64 (Int.tdiv x1 (mx t129 1))) > 1000000000 then (some (0, 0, false)) else (some (wrap64 (Int.tdiv x0 (mx t129 1)), wrap64 (Int.tdiv x1 (mx t129 1)), true))) else (some (0, 0, false)))))
def spec_l31Least.f (k : Nat) (a0 : Int) (a1 : Int) : Option (Int × Int × Bool) := if a1 = 0 then (some (0, 0, false)) else (if a1 < 0 then (spec_l31Least.j0 k (wrap64 (-a0)) (wrap64 (-a1))) else (spec_l31Least.j0 k a0 a1))
set_option maxHeartbeats 8000000 in
set_option maxRecDepth 100000 in
theorem spec_l31Least.calls (k : Nat) (a0 : Int) (a1 : Int) (r1 : Int) (r2 : Int) (r3 : Bool) (w : World) (h : spec_l31Least.f k a0 a1 = some (r1, r2, r3)) :
  Calls Try.prog 69 #[.int .i64 a0, .int .i64 a1] w fun e w' => e = .returned (.tuple #[.int .i64 r1, .int .i64 r2, .bool r3]) ∧ Below w.heap.size w w' := by
 have HB := Aside0.mk (Below.refl w.heap.size w)
 have H := h
 clear h
 unfold spec_l31Least.f at H
 by_cases c3 : a1 = 0
 ·rw [if_pos c3] at H
  have c3b0 : (a1 == 0) = true := beq_iff_eq.mpr c3
  have c3b1 : (a1 != 0) = false := bne_eq_false_iff_eq.mpr c3
  clear c3
  simp only [Option.some.injEq, Prod.mk.injEq] at H
  obtain ⟨rfl, rfl, rfl⟩ := H
  go_enter Try.func69, Try.ntmps69
  go_wp2
  go_ret3
  exact ⟨by first | rfl | (simp [errW_none, errW_some] <;> rfl) | (simp [*, errW_none, errW_some] <;> rfl), hz0 HB⟩
 ·rw [if_neg c3] at H
  have c3b0 : (a1 == 0) = false := beq_eq_false_iff_ne.mpr c3
  have c3b1 : (a1 != 0) = true := bne_iff_ne.mpr c3
  have HC4 := Aside0.mk H
  clear H
  go_enter Try.func69, Try.ntmps69
  go_upto_if 11 with (fail)
  go_cut [0, 1] (fun v0 v1 wc => ∃ (kq : Nat) (x0_3 : Int) (x1_3 : Int), v0 = .int .i64 x0_3 ∧ v1 = .int .i64 x1_3 ∧ Aside0 (spec_l31Least.j0 kq x0_3 x1_3 = some (r1, r2, r3)) ∧ Aside0 (kq ≤ k) ∧ Aside0 (Below w.heap.size w wc))
  case first =>
   have H := HC4.out
   clear HC4
   by_cases c5 : a1 < 0
   ·rw [if_pos c5] at H
    have c5b0 : decide (a1 < 0) = true := decide_eq_true c5
    clear c5
    (first | rw [c5b0] | (simp only [i64_w, i32_w]; rw [c5b0]) | skip)
    have H' := Aside0.mk H
    clear H
    go_wp2
    go_meet
    case rel => exact ⟨_, (wrap64 (-a0)), (wrap64 (-a1)), (by first | rfl | (simp; done) | (simp [*]; done)), (by first | rfl | (simp; done) | (simp [*]; done)), H', ⟨by first | omega | exact Nat.le_refl _⟩, ⟨hz0 HB⟩⟩
   ·rw [if_neg c5] at H
    have c5b0 : decide (a1 < 0) = false := decide_eq_false c5
    clear c5
    (first | rw [c5b0] | (simp only [i64_w, i32_w]; rw [c5b0]) | skip)
    have H' := Aside0.mk H
    clear H
    go_wp2
    go_meet
    case rel => exact ⟨_, (a0), (a1), (by first | rfl | (simp; done) | (simp [*]; done)), (by first | rfl | (simp; done) | (simp [*]; done)), H', ⟨by first | omega | exact Nat.le_refl _⟩, ⟨hz0 HB⟩⟩
  case rest =>
   clear HC4
   try clear p2
   try clear c3
   try clear c3b0
   try clear c3b1
   try clear c5
   try clear c5b0
   obtain ⟨kq, x0_3, x1_3, rfl, rfl, HA, HJ3, HB⟩ := hcut
   cases kq with
   | zero => exact absurd HA.out (by simp [spec_l31Least.j0])
   | succ kj3 =>
    have H := HA.out
    clear HA
    simp only [spec_l31Least.j0] at H
    obtain ⟨ji6, hji6⟩ : ∃ j_ : Int, (mx x0_3 (wrap64 (-x0_3))) = j_ := ⟨_, rfl⟩
    first | rw [hji6] at H | simp only [hji6] at H
    have hji6_ : (if x0_3 < (wrap64 (-x0_3)) then (wrap64 (-x0_3)) else x0_3) = ji6 := hji6
    replace H := Option.bind_eq_some_iff.mp H
    obtain ⟨t129, A70, H⟩ := H
    try dsimp only at H
    have A7 := Aside0.mk A70
    clear A70
    obtain ⟨ji8, hji8⟩ : ∃ j_ : Int, (mx t129 1) = j_ := ⟨_, rfl⟩
    first | rw [hji8] at H | simp only [hji8] at H
    (try rw [hji8] at A7)
    (try (have hji8l : 1 ≤ ji8 := by (rw [← hji8]; unfold mx; (repeat' split) <;> omega)))
    (try (have hji8m : 0 ≤ ji8 := by omega))
    have hji8_ : (if t129 < 1 then 1 else t129) = ji8 := hji8
    by_cases c9 : (ji8) = 0
    ·rw [if_pos c9] at H
     exact absurd H (by simp)
    ·rw [if_neg c9] at H
     have c9b0 : ((ji8) == 0) = false := beq_eq_false_iff_ne.mpr c9
     have c9b1 : ((ji8) != 0) = true := bne_iff_ne.mpr c9
     replace H := Option.bind_eq_some_iff.mp H
     obtain ⟨t130, A100, H⟩ := H
     try dsimp only at H
     have A10 := Aside0.mk A100
     clear A100
     by_cases c11 : t130 = true
     ·subst c11
      rw [if_pos rfl] at H
      by_cases c12 : (wrap64 (Int.tdiv x1_3 (ji8))) > 1000000000
      ·rw [if_pos c12] at H
       have c12b0 : decide (1000000000 < (wrap64 (Int.tdiv x1_3 (ji8)))) = true := decide_eq_true c12
       clear c12
       simp only [Option.some.injEq, Prod.mk.injEq] at H
       obtain ⟨rfl, rfl, rfl⟩ := H
       go_wp2_with (first | ((with_reducible refine gate_callee (f := 91) rfl ?_); refine gL 21 Try.func91 #[.int .i64 ji6, .int .i64 x1_3] (hargs := (by (try simp only [List.map_toArray, List.map_cons, List.map_nil]); first | done | (simp only [hji6]; rfl) | rfl | (simp only [List.length_drop, List.length_take]; rfl))) ?_; (with_reducible refine (spec_l31Gcd.calls kj3 ji6 x1_3 t129 _ A7.out).mono ?_); rintro e w' ⟨rfl, ⟨nd, rfl⟩⟩; refine ⟨_, rfl, ?_⟩) | ((with_reducible refine gate_callee (f := 57) rfl ?_); refine gL 30 Try.func57 #[.int .i64 (wrap64 (Int.tdiv x0_3 (ji8))), .int .i64 (-1000000000), .int .i64 1000000000] (hargs := (by (try simp only [List.map_toArray, List.map_cons, List.map_nil]); first | done | (simp only [hji8]; rfl) | rfl | (simp only [List.length_drop, List.length_take]; rfl))) ?_; (with_reducible refine (spec_l6In.calls (wrap64 (Int.tdiv x0_3 (ji8))) (-1000000000) 1000000000 true _ A10.out).mono ?_); rintro e w' ⟨rfl, ⟨nd, rfl⟩⟩; refine ⟨_, rfl, ?_⟩))
       go_ret3
       exact ⟨by first | rfl | (simp [errW_none, errW_some] <;> rfl) | (simp only [← hji6, ← hji8]; first | rfl | (simp [errW_none, errW_some] <;> rfl)) | (simp [*, errW_none, errW_some] <;> rfl), hz0 HB⟩
      ·rw [if_neg c12] at H
       have c12b0 : decide (1000000000 < (wrap64 (Int.tdiv x1_3 (ji8)))) = false := decide_eq_false c12
       clear c12
       simp only [Option.some.injEq, Prod.mk.injEq] at H
       obtain ⟨rfl, rfl, rfl⟩ := H
       go_wp2_with (first | ((with_reducible refine gate_callee (f := 91) rfl ?_); refine gL 21 Try.func91 #[.int .i64 ji6, .int .i64 x1_3] (hargs := (by (try simp only [List.map_toArray, List.map_cons, List.map_nil]); first | done | (simp only [hji6]; rfl) | rfl | (simp only [List.length_drop, List.length_take]; rfl))) ?_; (with_reducible refine (spec_l31Gcd.calls kj3 ji6 x1_3 t129 _ A7.out).mono ?_); rintro e w' ⟨rfl, ⟨nd, rfl⟩⟩; refine ⟨_, rfl, ?_⟩) | ((with_reducible refine gate_callee (f := 57) rfl ?_); refine gL 30 Try.func57 #[.int .i64 (wrap64 (Int.tdiv x0_3 (ji8))), .int .i64 (-1000000000), .int .i64 1000000000] (hargs := (by (try simp only [List.map_toArray, List.map_cons, List.map_nil]); first | done | (simp only [hji8]; rfl) | rfl | (simp only [List.length_drop, List.length_take]; rfl))) ?_; (with_reducible refine (spec_l6In.calls (wrap64 (Int.tdiv x0_3 (ji8))) (-1000000000) 1000000000 true _ A10.out).mono ?_); rintro e w' ⟨rfl, ⟨nd, rfl⟩⟩; refine ⟨_, rfl, ?_⟩))
       go_ret3
       exact ⟨by first | rfl | (simp [errW_none, errW_some] <;> rfl) | (simp only [← hji6, ← hji8]; first | rfl | (simp [errW_none, errW_some] <;> rfl)) | (simp [*, errW_none, errW_some] <;> rfl), hz0 HB⟩
     ·replace c11 := Bool.eq_false_iff.mpr c11
      subst c11
      rw [if_neg (show ¬ (false = true) by decide)] at H
      simp only [Option.some.injEq, Prod.mk.injEq] at H
      obtain ⟨rfl, rfl, rfl⟩ := H
      go_wp2_with (first | ((with_reducible refine gate_callee (f := 91) rfl ?_); refine gL 21 Try.func91 #[.int .i64 ji6, .int .i64 x1_3] (hargs := (by (try simp only [List.map_toArray, List.map_cons, List.map_nil]); first | done | (simp only [hji6]; rfl) | rfl | (simp only [List.length_drop, List.length_take]; rfl))) ?_; (with_reducible refine (spec_l31Gcd.calls kj3 ji6 x1_3 t129 _ A7.out).mono ?_); rintro e w' ⟨rfl, ⟨nd, rfl⟩⟩; refine ⟨_, rfl, ?_⟩) | ((with_reducible refine gate_callee (f := 57) rfl ?_); refine gL 30 Try.func57 #[.int .i64 (wrap64 (Int.tdiv x0_3 (ji8))), .int .i64 (-1000000000), .int .i64 1000000000] (hargs := (by (try simp only [List.map_toArray, List.map_cons, List.map_nil]); first | done | (simp only [hji8]; rfl) | rfl | (simp only [List.length_drop, List.length_take]; rfl))) ?_; (with_reducible refine (spec_l6In.calls (wrap64 (Int.tdiv x0_3 (ji8))) (-1000000000) 1000000000 false _ A10.out).mono ?_); rintro e w' ⟨rfl, ⟨nd, rfl⟩⟩; refine ⟨_, rfl, ?_⟩))
      go_ret3
      exact ⟨by first | rfl | (simp [errW_none, errW_some] <;> rfl) | (simp only [← hji6, ← hji8]; first | rfl | (simp [errW_none, errW_some] <;> rfl)) | (simp [*, errW_none, errW_some] <;> rfl), hz0 HB⟩


/-! ### spec_l31Two: function 70 -/
def spec_l31Two.j0 : Nat → Int → Int → Int → Int → Int → Option (Int × Int × Bool)
 | 0, _, _, _, _, _ => none
 | k + 1, x0, x1, x2, x3, x4 => if x0 = 7 then ((spec_l31Least.f k (wrap64 (x1 * x3)) (wrap64 (x2 * x4))).bind fun bt131 => (some (bt131.1, bt131.2.1, bt131.2.2))) else (if x0 = 8 then ((spec_l31Least.f k (wrap64 (x1 * x4)) (wrap64 (x2 * x3))).bind fun bt134 => (some (bt134.1, bt134.2.1, bt134.2.2))) else ((spec_l6In.f (wrap64 (x1 * x4)) (-576460752303423488) 576460752303423488).bind fun t137 => (if t137 = true then ((spec_l6In.f (wrap64 (x3 * x2)) (-576460752303423488) 576460752303423488).bind fun t138 => (if t138 = true then ((spec_l31Least.f k (wrap64 ((wrap64 (x1 * x4)) + (wrap64 (x3 * x2)))) (wrap64 (x2 * x4))).bind fun bt139 => (some (bt139.1, bt139.2.1, bt139.2.2))) else (some (0, 0, false)))) else (some (0, 0, false)))))
def spec_l31Two.f (k : Nat) (a0 : Int) (a1 : Int) (a2 : Int) (a3 : Int) (a4 : Int) : Option (Int × Int × Bool) := if a0 = 6 then (spec_l31Two.j0 k a0 a1 a2 (wrap64 (-a3)) a4) else (spec_l31Two.j0 k a0 a1 a2 a3 a4)
set_option maxHeartbeats 8000000 in
set_option maxRecDepth 100000 in
theorem spec_l31Two.calls (k : Nat) (a0 : Int) (a1 : Int) (a2 : Int) (a3 : Int) (a4 : Int) (r1 : Int) (r2 : Int) (r3 : Bool) (w : World) (h : spec_l31Two.f k a0 a1 a2 a3 a4 = some (r1, r2, r3)) :
  Calls Try.prog 70 #[.int .i64 a0, .int .i64 a1, .int .i64 a2, .int .i64 a3, .int .i64 a4] w fun e w' => e = .returned (.tuple #[.int .i64 r1, .int .i64 r2, .bool r3]) ∧ Below w.heap.size w w' := by
 have HB := Aside0.mk (Below.refl w.heap.size w)
 have H := h
 clear h
 unfold spec_l31Two.f at H
 have HC6 := Aside0.mk H
 clear H
 go_enter Try.func70, Try.ntmps70
 go_upto_if 16 with (fail)
 go_cut [3] (fun v3 wc => ∃ (kq : Nat) (x3_5 : Int), v3 = .int .i64 x3_5 ∧ Aside0 (spec_l31Two.j0 kq a0 a1 a2 x3_5 a4 = some (r1, r2, r3)) ∧ Aside0 (kq ≤ k) ∧ Aside0 (Below w.heap.size w wc))
 case first =>
  have H := HC6.out
  clear HC6
  by_cases c7 : a0 = 6
  ·rw [if_pos c7] at H
   have c7b0 : (a0 == 6) = true := beq_iff_eq.mpr c7
   have c7b1 : (a0 != 6) = false := bne_eq_false_iff_eq.mpr c7
   clear c7
   (first | rw [c7b0] | (simp only [i64_w, i32_w]; rw [c7b0]) | skip)
   have H' := Aside0.mk H
   clear H
   go_wp2
   go_meet
   case rel => exact ⟨_, (wrap64 (-a3)), (by first | rfl | (simp; done) | (simp [*]; done)), H', ⟨by first | omega | exact Nat.le_refl _⟩, ⟨hz0 HB⟩⟩
  ·rw [if_neg c7] at H
   have c7b0 : (a0 == 6) = false := beq_eq_false_iff_ne.mpr c7
   have c7b1 : (a0 != 6) = true := bne_iff_ne.mpr c7
   (first | rw [c7b0] | (simp only [i64_w, i32_w]; rw [c7b0]) | skip)
   have H' := Aside0.mk H
   clear H
   go_wp2
   go_meet
   case rel => exact ⟨_, (a3), (by first | rfl | (simp; done) | (simp [*]; done)), H', ⟨by first | omega | exact Nat.le_refl _⟩, ⟨hz0 HB⟩⟩
 case rest =>
  clear HC6
  try clear p2
  try clear p6
  try clear c7
  try clear c7b0
  try clear c7b1
  obtain ⟨kq, x3_5, rfl, HA, HJ5, HB⟩ := hcut
  cases kq with
  | zero => exact absurd HA.out (by simp [spec_l31Two.j0])
  | succ kj5 =>
   have H := HA.out
   clear HA
   simp only [spec_l31Two.j0] at H
   by_cases c8 : a0 = 7
   ·rw [if_pos c8] at H
    have c8b0 : (a0 == 7) = true := beq_iff_eq.mpr c8
    have c8b1 : (a0 != 7) = false := bne_eq_false_iff_eq.mpr c8
    clear c8
    replace H := Option.bind_eq_some_iff.mp H
    obtain ⟨⟨t131, t132, t133⟩, A90, H⟩ := H
    try dsimp only at H
    have A9 := Aside0.mk A90
    clear A90
    simp only [Option.some.injEq, Prod.mk.injEq] at H
    obtain ⟨rfl, rfl, rfl⟩ := H
    go_wp2_with (first | ((with_reducible refine gate_callee (f := 69) rfl ?_); refine gL 28 Try.func69 #[.int .i64 (wrap64 (a1 * x3_5)), .int .i64 (wrap64 (a2 * a4))] ?_; (with_reducible refine (spec_l31Least.calls kj5 (wrap64 (a1 * x3_5)) (wrap64 (a2 * a4)) t131 t132 t133 _ A9.out).mono ?_); rintro e w10 ⟨rfl, hb⟩; refine ⟨_, rfl, ?_⟩; replace HB := hbb (hz0 HB) hb; clear hb))
    go_ret3
    exact ⟨by first | rfl | (simp [errW_none, errW_some] <;> rfl) | (simp [*, errW_none, errW_some] <;> rfl), hz0 HB⟩
   ·rw [if_neg c8] at H
    have c8b0 : (a0 == 7) = false := beq_eq_false_iff_ne.mpr c8
    have c8b1 : (a0 != 7) = true := bne_iff_ne.mpr c8
    by_cases c11 : a0 = 8
    ·rw [if_pos c11] at H
     have c11b0 : (a0 == 8) = true := beq_iff_eq.mpr c11
     have c11b1 : (a0 != 8) = false := bne_eq_false_iff_eq.mpr c11
     clear c11
     replace H := Option.bind_eq_some_iff.mp H
     obtain ⟨⟨t134, t135, t136⟩, A120, H⟩ := H
     try dsimp only at H
     have A12 := Aside0.mk A120
     clear A120
     simp only [Option.some.injEq, Prod.mk.injEq] at H
     obtain ⟨rfl, rfl, rfl⟩ := H
     go_wp2_with (first | ((with_reducible refine gate_callee (f := 69) rfl ?_); refine gL 40 Try.func69 #[.int .i64 (wrap64 (a1 * a4)), .int .i64 (wrap64 (a2 * x3_5))] ?_; (with_reducible refine (spec_l31Least.calls kj5 (wrap64 (a1 * a4)) (wrap64 (a2 * x3_5)) t134 t135 t136 _ A12.out).mono ?_); rintro e w13 ⟨rfl, hb⟩; refine ⟨_, rfl, ?_⟩; replace HB := hbb (hz0 HB) hb; clear hb))
     go_ret3
     exact ⟨by first | rfl | (simp [errW_none, errW_some] <;> rfl) | (simp [*, errW_none, errW_some] <;> rfl), hz0 HB⟩
    ·rw [if_neg c11] at H
     have c11b0 : (a0 == 8) = false := beq_eq_false_iff_ne.mpr c11
     have c11b1 : (a0 != 8) = true := bne_iff_ne.mpr c11
     replace H := Option.bind_eq_some_iff.mp H
     obtain ⟨t137, A140, H⟩ := H
     try dsimp only at H
     have A14 := Aside0.mk A140
     clear A140
     by_cases c15 : t137 = true
     ·subst c15
      rw [if_pos rfl] at H
      replace H := Option.bind_eq_some_iff.mp H
      obtain ⟨t138, A160, H⟩ := H
      try dsimp only at H
      have A16 := Aside0.mk A160
      clear A160
      by_cases c17 : t138 = true
      ·subst c17
       rw [if_pos rfl] at H
       replace H := Option.bind_eq_some_iff.mp H
       obtain ⟨⟨t139, t140, t141⟩, A180, H⟩ := H
       try dsimp only at H
       have A18 := Aside0.mk A180
       clear A180
       simp only [Option.some.injEq, Prod.mk.injEq] at H
       obtain ⟨rfl, rfl, rfl⟩ := H
       go_wp2_with (first | ((with_reducible refine gate_callee (f := 57) rfl ?_); refine gL 51 Try.func57 #[.int .i64 (wrap64 (a1 * a4)), .int .i64 (-576460752303423488), .int .i64 576460752303423488] ?_; (with_reducible refine (spec_l6In.calls (wrap64 (a1 * a4)) (-576460752303423488) 576460752303423488 true _ A14.out).mono ?_); rintro e w' ⟨rfl, ⟨nd, rfl⟩⟩; refine ⟨_, rfl, ?_⟩) | (go_at_call 57; (with_reducible refine (spec_l6In.calls (wrap64 (x3_5 * a2)) (-576460752303423488) 576460752303423488 true _ A16.out).mono ?_); rintro e w' ⟨rfl, ⟨nd, rfl⟩⟩) | ((with_reducible refine gate_callee (f := 69) rfl ?_); refine gL 64 Try.func69 #[.int .i64 (wrap64 ((wrap64 (a1 * a4)) + (wrap64 (x3_5 * a2)))), .int .i64 (wrap64 (a2 * a4))] ?_; (with_reducible refine (spec_l31Least.calls kj5 (wrap64 ((wrap64 (a1 * a4)) + (wrap64 (x3_5 * a2)))) (wrap64 (a2 * a4)) t139 t140 t141 _ A18.out).mono ?_); rintro e w19 ⟨rfl, hb⟩; refine ⟨_, rfl, ?_⟩; replace HB := hbb (hz0 HB) hb; clear hb))
       go_ret3
       exact ⟨by first | rfl | (simp [errW_none, errW_some] <;> rfl) | (simp [*, errW_none, errW_some] <;> rfl), hz0 HB⟩
      ·replace c17 := Bool.eq_false_iff.mpr c17
       subst c17
       rw [if_neg (show ¬ (false = true) by decide)] at H
       simp only [Option.some.injEq, Prod.mk.injEq] at H
       obtain ⟨rfl, rfl, rfl⟩ := H
       go_wp2_with (first | ((with_reducible refine gate_callee (f := 57) rfl ?_); refine gL 51 Try.func57 #[.int .i64 (wrap64 (a1 * a4)), .int .i64 (-576460752303423488), .int .i64 576460752303423488] ?_; (with_reducible refine (spec_l6In.calls (wrap64 (a1 * a4)) (-576460752303423488) 576460752303423488 true _ A14.out).mono ?_); rintro e w' ⟨rfl, ⟨nd, rfl⟩⟩; refine ⟨_, rfl, ?_⟩) | (go_at_call 57; (with_reducible refine (spec_l6In.calls (wrap64 (x3_5 * a2)) (-576460752303423488) 576460752303423488 false _ A16.out).mono ?_); rintro e w' ⟨rfl, ⟨nd, rfl⟩⟩))
       go_ret3
       exact ⟨by first | rfl | (simp [errW_none, errW_some] <;> rfl) | (simp [*, errW_none, errW_some] <;> rfl), hz0 HB⟩
     ·replace c15 := Bool.eq_false_iff.mpr c15
      subst c15
      rw [if_neg (show ¬ (false = true) by decide)] at H
      simp only [Option.some.injEq, Prod.mk.injEq] at H
      obtain ⟨rfl, rfl, rfl⟩ := H
      go_wp2_with (first | ((with_reducible refine gate_callee (f := 57) rfl ?_); refine gL 51 Try.func57 #[.int .i64 (wrap64 (a1 * a4)), .int .i64 (-576460752303423488), .int .i64 576460752303423488] ?_; (with_reducible refine (spec_l6In.calls (wrap64 (a1 * a4)) (-576460752303423488) 576460752303423488 false _ A14.out).mono ?_); rintro e w' ⟨rfl, ⟨nd, rfl⟩⟩; refine ⟨_, rfl, ?_⟩))
      go_ret3
      exact ⟨by first | rfl | (simp [errW_none, errW_some] <;> rfl) | (simp [*, errW_none, errW_some] <;> rfl), hz0 HB⟩


/-! ### spec_l31Rat: function 49 -/
mutual
def spec_l31Rat.j0 : Nat → Int → Int → Bool → Bool → Int → Int → Int → List (S25) → Option (Int × Int × Bool)
 | 0, _, _, _, _, _, _, _, _ => none
 | k + 1, x5, x6, x7, x41, x143000, x143001, x143002, x143003 => if x41 = true then (some (wrap64 (-x5), x6, x7)) else (if 1 < (x143003.length : Int) then ((spec_l31Rat.f k ((rd_T25 x143003 1).f0) ((rd_T25 x143003 1).f1) ((rd_T25 x143003 1).f2) ((rd_T25 x143003 1).f3)).bind fun bt151 => (if bt151.2.2 = true then ((spec_l31Two.f k x143000 x5 x6 bt151.1 bt151.2.1).bind fun bt154 => (some (bt154.1, bt154.2.1, bt154.2.2))) else (some (0, 0, false)))) else (none))
def spec_l31Rat.f : Nat → Int → Int → Int → List (S25) → Option (Int × Int × Bool)
 | 0, _, _, _, _ => none
 | k + 1, a0_0, a0_1, a0_2, l0_3 => if a0_0 = 1 then ((spec_l31Least.f k a0_1 a0_2).bind fun bt143 => (some (bt143.1, bt143.2.1, bt143.2.2))) else (if a0_0 = 3 then (some (0, 0, false)) else (if a0_0 = 4 then (some (0, 0, false)) else (if 0 < (l0_3.length : Int) then ((spec_l31Rat.f k ((rd_T25 l0_3 0).f0) ((rd_T25 l0_3 0).f1) ((rd_T25 l0_3 0).f2) ((rd_T25 l0_3 0).f3)).bind fun bt147 => (if bt147.2.2 = true then (spec_l31Rat.j0 k bt147.1 bt147.2.1 bt147.2.2 (a0_0 == 2) a0_0 a0_1 a0_2 l0_3) else (spec_l31Rat.j0 k bt147.1 bt147.2.1 bt147.2.2 true a0_0 a0_1 a0_2 l0_3))) else (none))))
end
set_option maxHeartbeats 8000000 in
set_option maxRecDepth 100000 in
theorem spec_l31Rat.calls (k : Nat) : ∀ (a0_0 : Int) (a0_1 : Int) (a0_2 : Int) (A0_3 : Option Addr) (c0_3 : Nat) (l0_3 : List (S25)) (r1 : Int) (r2 : Int) (r3 : Bool) (w : World) (hr0_3 : Kd.C k25 w A0_3 l0_3.length l0_3) (hc0_3 : l0_3.length ≤ c0_3) (h : spec_l31Rat.f k a0_0 a0_1 a0_2 l0_3 = some (r1, r2, r3)),
  Calls Try.prog 49 #[.agg #[.int .i64 a0_0, .int .i64 a0_1, .int .i64 a0_2, .slice A0_3 l0_3.length c0_3]] w fun e w' => e = .returned (.tuple #[.int .i64 r1, .int .i64 r2, .bool r3]) ∧ Below w.heap.size w w' := by
 induction k using Nat.strongRecOn with
 | _ k ih =>
 intro a0_0 a0_1 a0_2 A0_3 c0_3 l0_3 r1 r2 r3 w hr0_3 hc0_3 h
 cases k with
 | zero => exact absurd h (by simp [spec_l31Rat.f])
 | succ k =>
 simp only [spec_l31Rat.f] at h
 have hu25 := Try.underlying25
 have HR0_3 := Aside0.mk hr0_3
 have HC0_3 := Aside0.mk hc0_3
 clear hr0_3 hc0_3
 have HB := Aside0.mk (Below.refl w.heap.size w)
 have H : (if a0_0 = 1 then ((spec_l31Least.f k a0_1 a0_2).bind fun bt143 => (some (bt143.1, bt143.2.1, bt143.2.2))) else (if a0_0 = 3 then (some (0, 0, false)) else (if a0_0 = 4 then (some (0, 0, false)) else (if 0 < (l0_3.length : Int) then ((spec_l31Rat.f k ((rd_T25 l0_3 0).f0) ((rd_T25 l0_3 0).f1) ((rd_T25 l0_3 0).f2) ((rd_T25 l0_3 0).f3)).bind fun bt147 => (if bt147.2.2 = true then (spec_l31Rat.j0 k bt147.1 bt147.2.1 bt147.2.2 (a0_0 == 2) a0_0 a0_1 a0_2 l0_3) else (spec_l31Rat.j0 k bt147.1 bt147.2.1 bt147.2.2 true a0_0 a0_1 a0_2 l0_3))) else (none))))) = some (r1, r2, r3) := h
 clear h
 by_cases c2 : a0_0 = 1
 ·rw [if_pos c2] at H
  have c2b0 : (a0_0 == 1) = true := beq_iff_eq.mpr c2
  have c2b1 : (a0_0 != 1) = false := bne_eq_false_iff_eq.mpr c2
  clear c2
  replace H := Option.bind_eq_some_iff.mp H
  obtain ⟨⟨t143, t144, t145⟩, A30, H⟩ := H
  try dsimp only at H
  have A3 := Aside0.mk A30
  clear A30
  simp only [Option.some.injEq, Prod.mk.injEq] at H
  obtain ⟨rfl, rfl, rfl⟩ := H
  go_enter Try.func49, Try.ntmps49
  go_wp2_with (first | ((with_reducible refine gate_dst (N := 1) rfl ?_); refine bE 1 #[.int .i64 a0_0, .int .i64 a0_1, .int .i64 a0_2, .slice A0_3 l0_3.length c0_3] 25 ?_; intro gb142 hg w4 hbox hb; have BK142 := Aside0.mk (hbox); have GE142 := gw hg (hz0 HB); have GW142 := GE142; replace HB := hbb (hz0 HB) hb; clear hb hbox hg; obtain ⟨hcz5_0, hcz5_1, hcz5_2, hcz5_3, hfz5_0, hfz5_1, hfz5_2, hfz5_3⟩ := cz4 BK142) | ((with_reducible refine gate_callee (f := 69) rfl ?_); refine gL 19 Try.func69 #[.int .i64 a0_1, .int .i64 a0_2] ?_; (with_reducible refine (spec_l31Least.calls k a0_1 a0_2 t143 t144 t145 _ A3.out).mono ?_); rintro e w6 ⟨rfl, hb⟩; refine ⟨_, rfl, ?_⟩; replace BK142 := bb (bk BK142) hb; replace HB := hbb (hzs HB) hb; clear hb))
  go_ret3
  exact ⟨by first | rfl | (simp [errW_none, errW_some] <;> rfl) | (simp [*, errW_none, errW_some] <;> rfl), hzs HB⟩
 ·rw [if_neg c2] at H
  have c2b0 : (a0_0 == 1) = false := beq_eq_false_iff_ne.mpr c2
  have c2b1 : (a0_0 != 1) = true := bne_iff_ne.mpr c2
  by_cases c7 : a0_0 = 3
  ·rw [if_pos c7] at H
   have c7b0 : (a0_0 == 3) = true := beq_iff_eq.mpr c7
   have c7b1 : (a0_0 != 3) = false := bne_eq_false_iff_eq.mpr c7
   clear c7
   simp only [Option.some.injEq, Prod.mk.injEq] at H
   obtain ⟨rfl, rfl, rfl⟩ := H
   go_enter Try.func49, Try.ntmps49
   go_wp2_with (first | ((with_reducible refine gate_dst (N := 1) rfl ?_); refine bE 1 #[.int .i64 a0_0, .int .i64 a0_1, .int .i64 a0_2, .slice A0_3 l0_3.length c0_3] 25 ?_; intro gb142 hg w8 hbox hb; have BK142 := Aside0.mk (hbox); have GE142 := gw hg (hz0 HB); have GW142 := GE142; replace HB := hbb (hz0 HB) hb; clear hb hbox hg; obtain ⟨hcz9_0, hcz9_1, hcz9_2, hcz9_3, hfz9_0, hfz9_1, hfz9_2, hfz9_3⟩ := cz4 BK142))
   go_ret3
   exact ⟨by first | rfl | (simp [errW_none, errW_some] <;> rfl) | (simp [*, errW_none, errW_some] <;> rfl), hzs HB⟩
  ·rw [if_neg c7] at H
   have c7b0 : (a0_0 == 3) = false := beq_eq_false_iff_ne.mpr c7
   have c7b1 : (a0_0 != 3) = true := bne_iff_ne.mpr c7
   by_cases c10 : a0_0 = 4
   ·rw [if_pos c10] at H
    have c10b0 : (a0_0 == 4) = true := beq_iff_eq.mpr c10
    have c10b1 : (a0_0 != 4) = false := bne_eq_false_iff_eq.mpr c10
    clear c10
    simp only [Option.some.injEq, Prod.mk.injEq] at H
    obtain ⟨rfl, rfl, rfl⟩ := H
    go_enter Try.func49, Try.ntmps49
    go_wp2_with (first | ((with_reducible refine gate_dst (N := 1) rfl ?_); refine bE 1 #[.int .i64 a0_0, .int .i64 a0_1, .int .i64 a0_2, .slice A0_3 l0_3.length c0_3] 25 ?_; intro gb142 hg w11 hbox hb; have BK142 := Aside0.mk (hbox); have GE142 := gw hg (hz0 HB); have GW142 := GE142; replace HB := hbb (hz0 HB) hb; clear hb hbox hg; obtain ⟨hcz12_0, hcz12_1, hcz12_2, hcz12_3, hfz12_0, hfz12_1, hfz12_2, hfz12_3⟩ := cz4 BK142))
    go_ret3
    exact ⟨by first | rfl | (simp [errW_none, errW_some] <;> rfl) | (simp [*, errW_none, errW_some] <;> rfl), hzs HB⟩
   ·rw [if_neg c10] at H
    have c10b0 : (a0_0 == 4) = false := beq_eq_false_iff_ne.mpr c10
    have c10b1 : (a0_0 != 4) = true := bne_iff_ne.mpr c10
    by_cases c13 : 0 < (l0_3.length : Int)
    ·rw [if_pos c13] at H
     have c13b0 : decide (0 < (l0_3.length : Int)) = true := decide_eq_true c13
     have c13b1 : decide (0 < l0_3.length) = true := decide_eq_true (by omega)
     clear c13
     replace H := Option.bind_eq_some_iff.mp H
     obtain ⟨⟨t147, t148, t149⟩, A140, H⟩ := H
     try dsimp only at H
     have A14 := Aside0.mk A140
     clear A140
     have HC15 := Aside0.mk H
     clear H
     go_enter Try.func49, Try.ntmps49
     go_upto_region 8 with (first | ((with_reducible refine gate_dst (N := 1) rfl ?_); refine bE 1 #[.int .i64 a0_0, .int .i64 a0_1, .int .i64 a0_2, .slice A0_3 l0_3.length c0_3] 25 ?_; intro gb142 hg w16 hbox hb; have BK142 := Aside0.mk (hbox); have GE142 := gw hg (hz0 HB); have GW142 := GE142; replace HB := hbb (hz0 HB) hb; clear hb hbox hg; obtain ⟨hcz17_0, hcz17_1, hcz17_2, hcz17_3, hfz17_0, hfz17_1, hfz17_2, hfz17_3⟩ := cz4 BK142; have p146 : 0 ≤ (0 : Int) := (by omega); have q146 : 0 < (l0_3.length : Int) := of_decide_eq_true (by first | (with_reducible assumption) | assumption); obtain ⟨ad146, A146_3, c146_3, e146, hx146_0, hx146_1, hx146_2, hx146_3, hl146_3, hi146_3⟩ := at_T25 HR0_3.out 0 p146 q146; cases e146; have qi146 : (0 < l0_3.length) = True := eq_true (by omega); (try rw [show ((0 : Int)).toNat = 0 from rfl] at hx146_0); (try rw [show 0 * 4 = 0 from rfl] at hx146_0); (try rw [Addr.add_zero'] at hx146_0); (try rw [show ((0 : Int)).toNat = 0 from rfl] at hx146_1); (try rw [show 0 * 4 = 0 from rfl] at hx146_1); (try rw [Addr.add_zero'] at hx146_1); (try rw [show ((0 : Int)).toNat = 0 from rfl] at hx146_2); (try rw [show 0 * 4 = 0 from rfl] at hx146_2); (try rw [Addr.add_zero'] at hx146_2); (try rw [show ((0 : Int)).toNat = 0 from rfl] at hx146_3); (try rw [show 0 * 4 = 0 from rfl] at hx146_3); (try rw [Addr.add_zero'] at hx146_3); replace hx146_0 := (HB.out.cell (World.block_lt_of_cell? w _ hx146_0)).trans hx146_0; replace hx146_1 := (HB.out.cell (World.block_lt_of_cell? w _ hx146_1)).trans hx146_1; replace hx146_2 := (HB.out.cell (World.block_lt_of_cell? w _ hx146_2)).trans hx146_2; replace hx146_3 := (HB.out.cell (World.block_lt_of_cell? w _ hx146_3)).trans hx146_3; have HR146_3 := Aside0.mk hi146_3; have HC146_3 := Aside0.mk hl146_3; clear hi146_3 hl146_3; replace p146 := eq_true p146; replace q146 := eq_true q146) | ((with_reducible refine gate_callee (f := 49) rfl ?_); refine gL 31 Try.func49 #[.agg #[.int .i64 ((rd_T25 l0_3 0).f0), .int .i64 ((rd_T25 l0_3 0).f1), .int .i64 ((rd_T25 l0_3 0).f2), .slice A146_3 ((rd_T25 l0_3 0).f3).length c146_3]] ?_; (with_reducible refine (ih k (by omega) ((rd_T25 l0_3 0).f0) ((rd_T25 l0_3 0).f1) ((rd_T25 l0_3 0).f2) _ _ ((rd_T25 l0_3 0).f3) t147 t148 t149 _ ?side1 ?side2 A14.out).mono ?_); (case side1 => repeat (first | exact (Kd.C_below HR146_3.out HB.out) | (with_reducible refine Kd.C_alloc ?_ _) | (with_reducible refine Kd.C_drewN ?_ _) | (with_reducible refine Kd.C_drew ?_))); (case side2 => exact HC146_3.out); rintro e w18 ⟨rfl, hb⟩; refine ⟨_, rfl, ?_⟩; replace BK142 := bb (bk BK142) hb; replace HB := hbb (hzs HB) hb; clear hb))
     (try simp only [Act.put, List.setIfInBounds_toArray, List.set_cons_zero, List.set_cons_succ])
     go_cut [41] (fun v41 wc => ∃ (kq : Nat) (x41_14 : Bool), v41 = .bool x41_14 ∧ Aside0 (spec_l31Rat.j0 kq t147 t148 t149 x41_14 a0_0 a0_1 a0_2 l0_3 = some (r1, r2, r3)) ∧ Aside0 (kq ≤ k) ∧ Aside0 (wc.heap[gb142]? = some (.cells #[.int .i64 a0_0, .int .i64 a0_1, .int .i64 a0_2, (.slice (some ad146) l0_3.length c0_3)] 25 (0, 0))) ∧ Aside0 (Below w.heap.size w wc))
     case first =>
      have H := HC15.out
      clear HC15
      by_cases c19 : t149 = true
      ·subst c19
       rw [if_pos rfl] at H
       have H' := Aside0.mk H
       clear H
       obtain ⟨hcz20_0, hcz20_1, hcz20_2, hcz20_3, hfz20_0, hfz20_1, hfz20_2, hfz20_3⟩ := cz4 BK142
       go_wp2
       go_meet
       case rel => exact ⟨_, ((a0_0 == 2)), (by first | rfl | (simp; done) | (simp [*]; done)), H', ⟨by first | omega | exact Nat.le_refl _⟩, ⟨bk BK142⟩, ⟨hzs HB⟩⟩
      ·replace c19 := Bool.eq_false_iff.mpr c19
       subst c19
       rw [if_neg (show ¬ (false = true) by decide)] at H
       have H' := Aside0.mk H
       clear H
       go_wp2
       go_meet
       case rel => exact ⟨_, (true), (by first | rfl | (simp; done) | (simp [*]; done)), H', ⟨by first | omega | exact Nat.le_refl _⟩, ⟨bk BK142⟩, ⟨hzs HB⟩⟩
     case rest =>
      clear HC15
      try clear c1
      try clear p1
      try clear q1
      try clear hx1
      try clear qi1
      try clear c2
      try clear c2b0
      try clear c2b1
      try clear p2
      try clear c4
      try clear c6
      try clear c7
      try clear c7b0
      try clear c7b1
      try clear c10
      try clear c10b0
      try clear c10b1
      try clear c13
      try clear c13b0
      try clear c13b1
      try clear c14
      try clear p14
      try clear q14
      try clear hx14
      try clear qi14
      try clear c19
      try clear hcz12_0 hcz12_1 hcz12_2 hcz12_3
      try clear hcz17_0 hcz17_1 hcz17_2 hcz17_3
      try clear hcz20_0 hcz20_1 hcz20_2 hcz20_3
      try clear hcz5_0 hcz5_1 hcz5_2 hcz5_3
      try clear hcz9_0 hcz9_1 hcz9_2 hcz9_3
      try clear hfz12_0 hfz12_1 hfz12_2 hfz12_3
      try clear hfz17_0 hfz17_1 hfz17_2 hfz17_3
      try clear hfz20_0 hfz20_1 hfz20_2 hfz20_3
      try clear hfz5_0 hfz5_1 hfz5_2 hfz5_3
      try clear hfz9_0 hfz9_1 hfz9_2 hfz9_3
      try clear hx146_0
      try clear hx146_1
      try clear hx146_2
      try clear hx146_3
      try clear p146
      try clear q146
      obtain ⟨kq, x41_14, rfl, HA, HJ14, BK142, HB⟩ := hcut
      cases kq with
      | zero => exact absurd HA.out (by simp [spec_l31Rat.j0])
      | succ kj14 =>
       have H := HA.out
       clear HA
       simp only [spec_l31Rat.j0] at H
       by_cases c21 : x41_14 = true
       ·subst c21
        rw [if_pos rfl] at H
        simp only [Option.some.injEq, Prod.mk.injEq] at H
        obtain ⟨rfl, rfl, rfl⟩ := H
        go_wp2
        go_ret3
        exact ⟨by first | rfl | (simp [errW_none, errW_some] <;> rfl) | (simp [*, errW_none, errW_some] <;> rfl), hzs HB⟩
       ·replace c21 := Bool.eq_false_iff.mpr c21
        subst c21
        rw [if_neg (show ¬ (false = true) by decide)] at H
        by_cases c22 : 1 < (l0_3.length : Int)
        ·rw [if_pos c22] at H
         have c22b0 : decide (1 < (l0_3.length : Int)) = true := decide_eq_true c22
         have c22b1 : decide (1 < l0_3.length) = true := decide_eq_true (by omega)
         clear c22
         replace H := Option.bind_eq_some_iff.mp H
         obtain ⟨⟨t151, t152, t153⟩, A230, H⟩ := H
         try dsimp only at H
         have A23 := Aside0.mk A230
         clear A230
         by_cases c24 : t153 = true
         ·subst c24
          rw [if_pos rfl] at H
          replace H := Option.bind_eq_some_iff.mp H
          obtain ⟨⟨t154, t155, t156⟩, A250, H⟩ := H
          try dsimp only at H
          have A25 := Aside0.mk A250
          clear A250
          simp only [Option.some.injEq, Prod.mk.injEq] at H
          obtain ⟨rfl, rfl, rfl⟩ := H
          obtain ⟨hcz26_0, hcz26_1, hcz26_2, hcz26_3, hfz26_0, hfz26_1, hfz26_2, hfz26_3⟩ := cz4 BK142
          have p150 : 0 ≤ (1 : Int) := (by omega)
          have q150 : 1 < (l0_3.length : Int) := of_decide_eq_true (by first | (with_reducible assumption) | assumption)
          obtain ⟨ad150, A150_3, c150_3, e150, hx150_0, hx150_1, hx150_2, hx150_3, hl150_3, hi150_3⟩ := at_T25 HR0_3.out 1 p150 q150
          obtain rfl : ad146 = ad150 := (by injection e150)
          (try simp only [show (1 : Int).toNat = 1 from rfl, Nat.reduceMul, Nat.reduceEqDiff, Go.Addr.add, ↓reduceIte] at hx150_0)
          (try simp only [show (1 : Int).toNat = 1 from rfl, Nat.reduceMul, Nat.reduceEqDiff, Go.Addr.add, ↓reduceIte] at hx150_1)
          (try simp only [show (1 : Int).toNat = 1 from rfl, Nat.reduceMul, Nat.reduceEqDiff, Go.Addr.add, ↓reduceIte] at hx150_2)
          (try simp only [show (1 : Int).toNat = 1 from rfl, Nat.reduceMul, Nat.reduceEqDiff, Go.Addr.add, ↓reduceIte] at hx150_3)
          have qi150 : (1 < l0_3.length) = True := eq_true (by omega)
          (try rw [show ((1 : Int)).toNat = 1 from rfl] at hx150_0)
          (try rw [show 1 * 4 = 4 from rfl] at hx150_0)
          (try rw [show ((1 : Int)).toNat = 1 from rfl] at hx150_1)
          (try rw [show 1 * 4 = 4 from rfl] at hx150_1)
          (try rw [show ((1 : Int)).toNat = 1 from rfl] at hx150_2)
          (try rw [show 1 * 4 = 4 from rfl] at hx150_2)
          (try rw [show ((1 : Int)).toNat = 1 from rfl] at hx150_3)
          (try rw [show 1 * 4 = 4 from rfl] at hx150_3)
          replace hx150_0 := (HB.out.cell (World.block_lt_of_cell? w _ hx150_0)).trans hx150_0
          replace hx150_1 := (HB.out.cell (World.block_lt_of_cell? w _ hx150_1)).trans hx150_1
          replace hx150_2 := (HB.out.cell (World.block_lt_of_cell? w _ hx150_2)).trans hx150_2
          replace hx150_3 := (HB.out.cell (World.block_lt_of_cell? w _ hx150_3)).trans hx150_3
          have HR150_3 := Aside0.mk hi150_3
          have HC150_3 := Aside0.mk hl150_3
          clear hi150_3 hl150_3
          replace p150 := eq_true p150
          replace q150 := eq_true q150
          go_wp2_with (first | ((with_reducible refine gate_callee (f := 49) rfl ?_); refine gL 51 Try.func49 #[.agg #[.int .i64 ((rd_T25 l0_3 1).f0), .int .i64 ((rd_T25 l0_3 1).f1), .int .i64 ((rd_T25 l0_3 1).f2), .slice A150_3 ((rd_T25 l0_3 1).f3).length c150_3]] ?_; (with_reducible refine (ih kj14 (by have := HJ14.out; omega) ((rd_T25 l0_3 1).f0) ((rd_T25 l0_3 1).f1) ((rd_T25 l0_3 1).f2) _ _ ((rd_T25 l0_3 1).f3) t151 t152 true _ ?side1 ?side2 A23.out).mono ?_); (case side1 => repeat (first | exact (Kd.C_below HR150_3.out HB.out) | (with_reducible refine Kd.C_alloc ?_ _) | (with_reducible refine Kd.C_drewN ?_ _) | (with_reducible refine Kd.C_drew ?_))); (case side2 => exact HC150_3.out); rintro e w27 ⟨rfl, hb⟩; refine ⟨_, rfl, ?_⟩; replace BK142 := bb (bk BK142) hb; replace HB := hbb (hzs HB) hb; clear hb; obtain ⟨hcz28_0, hcz28_1, hcz28_2, hcz28_3, hfz28_0, hfz28_1, hfz28_2, hfz28_3⟩ := cz4 BK142) | ((with_reducible refine gate_callee (f := 70) rfl ?_); refine gL 63 Try.func70 #[.int .i64 a0_0, .int .i64 t147, .int .i64 t148, .int .i64 t151, .int .i64 t152] ?_; (with_reducible refine (spec_l31Two.calls kj14 a0_0 t147 t148 t151 t152 t154 t155 t156 _ A25.out).mono ?_); rintro e w29 ⟨rfl, hb⟩; refine ⟨_, rfl, ?_⟩; replace BK142 := bb (bk BK142) hb; replace HB := hbb (hzs HB) hb; clear hb))
          go_ret3
          exact ⟨by first | rfl | (simp [errW_none, errW_some] <;> rfl) | (simp [*, errW_none, errW_some] <;> rfl), hzs HB⟩
         ·replace c24 := Bool.eq_false_iff.mpr c24
          subst c24
          rw [if_neg (show ¬ (false = true) by decide)] at H
          simp only [Option.some.injEq, Prod.mk.injEq] at H
          obtain ⟨rfl, rfl, rfl⟩ := H
          obtain ⟨hcz30_0, hcz30_1, hcz30_2, hcz30_3, hfz30_0, hfz30_1, hfz30_2, hfz30_3⟩ := cz4 BK142
          have p150 : 0 ≤ (1 : Int) := (by omega)
          have q150 : 1 < (l0_3.length : Int) := of_decide_eq_true (by first | (with_reducible assumption) | assumption)
          obtain ⟨ad150, A150_3, c150_3, e150, hx150_0, hx150_1, hx150_2, hx150_3, hl150_3, hi150_3⟩ := at_T25 HR0_3.out 1 p150 q150
          obtain rfl : ad146 = ad150 := (by injection e150)
          (try simp only [show (1 : Int).toNat = 1 from rfl, Nat.reduceMul, Nat.reduceEqDiff, Go.Addr.add, ↓reduceIte] at hx150_0)
          (try simp only [show (1 : Int).toNat = 1 from rfl, Nat.reduceMul, Nat.reduceEqDiff, Go.Addr.add, ↓reduceIte] at hx150_1)
          (try simp only [show (1 : Int).toNat = 1 from rfl, Nat.reduceMul, Nat.reduceEqDiff, Go.Addr.add, ↓reduceIte] at hx150_2)
          (try simp only [show (1 : Int).toNat = 1 from rfl, Nat.reduceMul, Nat.reduceEqDiff, Go.Addr.add, ↓reduceIte] at hx150_3)
          have qi150 : (1 < l0_3.length) = True := eq_true (by omega)
          (try rw [show ((1 : Int)).toNat = 1 from rfl] at hx150_0)
          (try rw [show 1 * 4 = 4 from rfl] at hx150_0)
          (try rw [show ((1 : Int)).toNat = 1 from rfl] at hx150_1)
          (try rw [show 1 * 4 = 4 from rfl] at hx150_1)
          (try rw [show ((1 : Int)).toNat = 1 from rfl] at hx150_2)
          (try rw [show 1 * 4 = 4 from rfl] at hx150_2)
          (try rw [show ((1 : Int)).toNat = 1 from rfl] at hx150_3)
          (try rw [show 1 * 4 = 4 from rfl] at hx150_3)
          replace hx150_0 := (HB.out.cell (World.block_lt_of_cell? w _ hx150_0)).trans hx150_0
          replace hx150_1 := (HB.out.cell (World.block_lt_of_cell? w _ hx150_1)).trans hx150_1
          replace hx150_2 := (HB.out.cell (World.block_lt_of_cell? w _ hx150_2)).trans hx150_2
          replace hx150_3 := (HB.out.cell (World.block_lt_of_cell? w _ hx150_3)).trans hx150_3
          have HR150_3 := Aside0.mk hi150_3
          have HC150_3 := Aside0.mk hl150_3
          clear hi150_3 hl150_3
          replace p150 := eq_true p150
          replace q150 := eq_true q150
          go_wp2_with (first | ((with_reducible refine gate_callee (f := 49) rfl ?_); refine gL 51 Try.func49 #[.agg #[.int .i64 ((rd_T25 l0_3 1).f0), .int .i64 ((rd_T25 l0_3 1).f1), .int .i64 ((rd_T25 l0_3 1).f2), .slice A150_3 ((rd_T25 l0_3 1).f3).length c150_3]] ?_; (with_reducible refine (ih kj14 (by have := HJ14.out; omega) ((rd_T25 l0_3 1).f0) ((rd_T25 l0_3 1).f1) ((rd_T25 l0_3 1).f2) _ _ ((rd_T25 l0_3 1).f3) t151 t152 false _ ?side1 ?side2 A23.out).mono ?_); (case side1 => repeat (first | exact (Kd.C_below HR150_3.out HB.out) | (with_reducible refine Kd.C_alloc ?_ _) | (with_reducible refine Kd.C_drewN ?_ _) | (with_reducible refine Kd.C_drew ?_))); (case side2 => exact HC150_3.out); rintro e w31 ⟨rfl, hb⟩; refine ⟨_, rfl, ?_⟩; replace BK142 := bb (bk BK142) hb; replace HB := hbb (hzs HB) hb; clear hb))
          go_ret3
          exact ⟨by first | rfl | (simp [errW_none, errW_some] <;> rfl) | (simp [*, errW_none, errW_some] <;> rfl), hzs HB⟩
        ·rw [if_neg c22] at H
         exact absurd H (by simp)
    ·rw [if_neg c13] at H
     exact absurd H (by simp)


/-! ### spec_ExprRat: function 25 -/
def spec_ExprRat.f (k : Nat) (a0_0 : Int) (a0_1 : Int) (a0_2 : Int) (l0_3 : List (S25)) : Option (Int × Int × Bool) := (spec_ExprOk.f k a0_0 a0_1 a0_2 l0_3).bind fun t158 => (if t158 = true then ((spec_l31Rat.f k a0_0 a0_1 a0_2 l0_3).bind fun bt159 => (if bt159.2.2 = true then (some (bt159.1, bt159.2.1, true)) else (some (0, 0, false)))) else (some (0, 0, false)))
set_option maxHeartbeats 8000000 in
set_option maxRecDepth 100000 in
theorem spec_ExprRat.calls (k : Nat) (a0_0 : Int) (a0_1 : Int) (a0_2 : Int) (A0_3 : Option Addr) (c0_3 : Nat) (l0_3 : List (S25)) (r1 : Int) (r2 : Int) (r3 : Bool) (w : World) (hr0_3 : Kd.C k25 w A0_3 l0_3.length l0_3) (hc0_3 : l0_3.length ≤ c0_3) (h : spec_ExprRat.f k a0_0 a0_1 a0_2 l0_3 = some (r1, r2, r3)) :
  Calls Try.prog 25 #[.agg #[.int .i64 a0_0, .int .i64 a0_1, .int .i64 a0_2, .slice A0_3 l0_3.length c0_3]] w fun e w' => e = .returned (.tuple #[.int .i64 r1, .int .i64 r2, .bool r3]) ∧ Below w.heap.size w w' := by
 have hu25 := Try.underlying25
 have HR0_3 := Aside0.mk hr0_3
 have HC0_3 := Aside0.mk hc0_3
 clear hr0_3 hc0_3
 have HB := Aside0.mk (Below.refl w.heap.size w)
 have H := h
 clear h
 unfold spec_ExprRat.f at H
 replace H := Option.bind_eq_some_iff.mp H
 obtain ⟨t158, A20, H⟩ := H
 try dsimp only at H
 have A2 := Aside0.mk A20
 clear A20
 by_cases c3 : t158 = true
 ·subst c3
  rw [if_pos rfl] at H
  replace H := Option.bind_eq_some_iff.mp H
  obtain ⟨⟨t159, t160, t161⟩, A40, H⟩ := H
  try dsimp only at H
  have A4 := Aside0.mk A40
  clear A40
  by_cases c5 : t161 = true
  ·subst c5
   rw [if_pos rfl] at H
   simp only [Option.some.injEq, Prod.mk.injEq] at H
   obtain ⟨rfl, rfl, rfl⟩ := H
   go_enter Try.func25, Try.ntmps25
   go_wp2_with (first | ((with_reducible refine gate_dst (N := 1) rfl ?_); refine bE 1 #[.int .i64 a0_0, .int .i64 a0_1, .int .i64 a0_2, .slice A0_3 l0_3.length c0_3] 25 ?_; intro gb157 hg w6 hbox hb; have BK157 := Aside0.mk (hbox); have GE157 := gw hg (hz0 HB); have GW157 := GE157; replace HB := hbb (hz0 HB) hb; clear hb hbox hg; obtain ⟨hcz7_0, hcz7_1, hcz7_2, hcz7_3, hfz7_0, hfz7_1, hfz7_2, hfz7_3⟩ := cz4 BK157) | ((with_reducible refine gate_callee (f := 21) rfl ?_); refine gL 9 Try.func21 #[.agg #[.int .i64 a0_0, .int .i64 a0_1, .int .i64 a0_2, .slice A0_3 l0_3.length c0_3]] ?_; (with_reducible refine (spec_ExprOk.calls k a0_0 a0_1 a0_2 _ _ l0_3 true _ ?side1 ?side2 A2.out).mono ?_); (case side1 => repeat (first | exact (Kd.C_below HR0_3.out HB.out) | (with_reducible refine Kd.C_alloc ?_ _) | (with_reducible refine Kd.C_drewN ?_ _) | (with_reducible refine Kd.C_drew ?_))); (case side2 => exact HC0_3.out); rintro e w8 ⟨rfl, hb⟩; refine ⟨_, rfl, ?_⟩; replace BK157 := bb (bk BK157) hb; replace HB := hbb (hzs HB) hb; clear hb; obtain ⟨hcz9_0, hcz9_1, hcz9_2, hcz9_3, hfz9_0, hfz9_1, hfz9_2, hfz9_3⟩ := cz4 BK157) | ((with_reducible refine gate_callee (f := 49) rfl ?_); refine gL 13 Try.func49 #[.agg #[.int .i64 a0_0, .int .i64 a0_1, .int .i64 a0_2, .slice A0_3 l0_3.length c0_3]] ?_; (with_reducible refine (spec_l31Rat.calls k a0_0 a0_1 a0_2 _ _ l0_3 t159 t160 true _ ?side1 ?side2 A4.out).mono ?_); (case side1 => repeat (first | exact (Kd.C_below HR0_3.out HB.out) | (with_reducible refine Kd.C_alloc ?_ _) | (with_reducible refine Kd.C_drewN ?_ _) | (with_reducible refine Kd.C_drew ?_))); (case side2 => exact HC0_3.out); rintro e w10 ⟨rfl, hb⟩; refine ⟨_, rfl, ?_⟩; replace BK157 := bb (bk BK157) hb; replace HB := hbb (hzs HB) hb; clear hb))
   go_ret3
   exact ⟨by first | rfl | (simp [errW_none, errW_some] <;> rfl) | (simp [*, errW_none, errW_some] <;> rfl), hzs HB⟩
  ·replace c5 := Bool.eq_false_iff.mpr c5
   subst c5
   rw [if_neg (show ¬ (false = true) by decide)] at H
   simp only [Option.some.injEq, Prod.mk.injEq] at H
   obtain ⟨rfl, rfl, rfl⟩ := H
   go_enter Try.func25, Try.ntmps25
   go_wp2_with (first | ((with_reducible refine gate_dst (N := 1) rfl ?_); refine bE 1 #[.int .i64 a0_0, .int .i64 a0_1, .int .i64 a0_2, .slice A0_3 l0_3.length c0_3] 25 ?_; intro gb157 hg w11 hbox hb; have BK157 := Aside0.mk (hbox); have GE157 := gw hg (hz0 HB); have GW157 := GE157; replace HB := hbb (hz0 HB) hb; clear hb hbox hg; obtain ⟨hcz12_0, hcz12_1, hcz12_2, hcz12_3, hfz12_0, hfz12_1, hfz12_2, hfz12_3⟩ := cz4 BK157) | ((with_reducible refine gate_callee (f := 21) rfl ?_); refine gL 9 Try.func21 #[.agg #[.int .i64 a0_0, .int .i64 a0_1, .int .i64 a0_2, .slice A0_3 l0_3.length c0_3]] ?_; (with_reducible refine (spec_ExprOk.calls k a0_0 a0_1 a0_2 _ _ l0_3 true _ ?side1 ?side2 A2.out).mono ?_); (case side1 => repeat (first | exact (Kd.C_below HR0_3.out HB.out) | (with_reducible refine Kd.C_alloc ?_ _) | (with_reducible refine Kd.C_drewN ?_ _) | (with_reducible refine Kd.C_drew ?_))); (case side2 => exact HC0_3.out); rintro e w13 ⟨rfl, hb⟩; refine ⟨_, rfl, ?_⟩; replace BK157 := bb (bk BK157) hb; replace HB := hbb (hzs HB) hb; clear hb; obtain ⟨hcz14_0, hcz14_1, hcz14_2, hcz14_3, hfz14_0, hfz14_1, hfz14_2, hfz14_3⟩ := cz4 BK157) | ((with_reducible refine gate_callee (f := 49) rfl ?_); refine gL 13 Try.func49 #[.agg #[.int .i64 a0_0, .int .i64 a0_1, .int .i64 a0_2, .slice A0_3 l0_3.length c0_3]] ?_; (with_reducible refine (spec_l31Rat.calls k a0_0 a0_1 a0_2 _ _ l0_3 t159 t160 false _ ?side1 ?side2 A4.out).mono ?_); (case side1 => repeat (first | exact (Kd.C_below HR0_3.out HB.out) | (with_reducible refine Kd.C_alloc ?_ _) | (with_reducible refine Kd.C_drewN ?_ _) | (with_reducible refine Kd.C_drew ?_))); (case side2 => exact HC0_3.out); rintro e w15 ⟨rfl, hb⟩; refine ⟨_, rfl, ?_⟩; replace BK157 := bb (bk BK157) hb; replace HB := hbb (hzs HB) hb; clear hb))
   go_ret3
   exact ⟨by first | rfl | (simp [errW_none, errW_some] <;> rfl) | (simp [*, errW_none, errW_some] <;> rfl), hzs HB⟩
 ·replace c3 := Bool.eq_false_iff.mpr c3
  subst c3
  rw [if_neg (show ¬ (false = true) by decide)] at H
  simp only [Option.some.injEq, Prod.mk.injEq] at H
  obtain ⟨rfl, rfl, rfl⟩ := H
  go_enter Try.func25, Try.ntmps25
  go_wp2_with (first | ((with_reducible refine gate_dst (N := 1) rfl ?_); refine bE 1 #[.int .i64 a0_0, .int .i64 a0_1, .int .i64 a0_2, .slice A0_3 l0_3.length c0_3] 25 ?_; intro gb157 hg w16 hbox hb; have BK157 := Aside0.mk (hbox); have GE157 := gw hg (hz0 HB); have GW157 := GE157; replace HB := hbb (hz0 HB) hb; clear hb hbox hg; obtain ⟨hcz17_0, hcz17_1, hcz17_2, hcz17_3, hfz17_0, hfz17_1, hfz17_2, hfz17_3⟩ := cz4 BK157) | ((with_reducible refine gate_callee (f := 21) rfl ?_); refine gL 9 Try.func21 #[.agg #[.int .i64 a0_0, .int .i64 a0_1, .int .i64 a0_2, .slice A0_3 l0_3.length c0_3]] ?_; (with_reducible refine (spec_ExprOk.calls k a0_0 a0_1 a0_2 _ _ l0_3 false _ ?side1 ?side2 A2.out).mono ?_); (case side1 => repeat (first | exact (Kd.C_below HR0_3.out HB.out) | (with_reducible refine Kd.C_alloc ?_ _) | (with_reducible refine Kd.C_drewN ?_ _) | (with_reducible refine Kd.C_drew ?_))); (case side2 => exact HC0_3.out); rintro e w18 ⟨rfl, hb⟩; refine ⟨_, rfl, ?_⟩; replace BK157 := bb (bk BK157) hb; replace HB := hbb (hzs HB) hb; clear hb))
  go_ret3
  exact ⟨by first | rfl | (simp [errW_none, errW_some] <;> rfl) | (simp [*, errW_none, errW_some] <;> rfl), hzs HB⟩


end Go.Proofs.Ytlodpfddimeffaa.M
