import Derived.Test.YtmcippkpgmehdaaM0
import Derived.Test.YtmcippkpgmehdaaNa
namespace Go.Proofs.Ytmcippkpgmehdaa.M
open Go.RowKit Go.Proofs.YtmcippkpgmehdaaW.PrintWords Go.Proofs.YtmcippkpgmehdaaW.PrintLast Go.Proofs.YtmcippkpgmehdaaW.PrintMore
attribute [local go_sem] max2_int min2_int max_two min_two max_three min_three max_four min_four
attribute [local go_sem high] eqA42 eqA29 eqA24
attribute [local go_sem] fld42_0 fld42_1 fld29_0 fld29_1 fld24_0 fld24_1 fld38_0 fld38_1 fld88_0 fld88_1 fld88_2 fld88_3 fld88_4
set_option linter.unusedVariables false
set_option linter.unusedSimpArgs false

/-! ### spec_l12Row: function 105 -/
mutual
def spec_l12Row.l0 : Nat → Int → Int → Int → Int → Int → Int → Bool → Option (Int × Int)
 | 0, _, _, _, _, _, _, _ => none
 | k + 1, x1, x2, x7, x8, x9, x10, x11 => if x10 > 0 then (spec_l12Row.j1 k x1 x2 x7 x8 x9 x10 x11 (decide (x2 < 40))) else (spec_l12Row.j1 k x1 x2 x7 x8 x9 x10 x11 false)
def spec_l12Row.j1 : Nat → Int → Int → Int → Int → Int → Int → Bool → Bool → Option (Int × Int)
 | 0, _, _, _, _, _, _, _, _ => none
 | k + 1, x1, x2, x7, x8, x9, x10, x11, x21 => if x21 = true then ((spec_l12Times.f x1 x1 false).bind fun t125 => ((spec_l12Times.f x9 t125 false).bind fun t126 => ((spec_l12Over.f t126 (wrap64 (x2 * (wrap64 (x2 + 1)))) false).bind fun t127 => ((spec_l12Times.f x1 x1 true).bind fun t128 => ((spec_l12Times.f x10 t128 true).bind fun t129 => ((spec_l12Over.f t129 (wrap64 (x2 * (wrap64 (x2 + 1)))) true).bind fun t130 => (if t130 = 1 then (spec_l12Row.j2 k x1 x2 x7 x8 t127 t130 x11 (t127 == 0)) else (spec_l12Row.j2 k x1 x2 x7 x8 t127 t130 x11 false)))))))) else (some (x7, x8))
def spec_l12Row.j2 : Nat → Int → Int → Int → Int → Int → Int → Bool → Bool → Option (Int × Int)
 | 0, _, _, _, _, _, _, _, _ => none
 | k + 1, x1, x2, x7, x8, x9, x10, x11, x47 => if x47 = true then (some (wrap64 (x7 - 1), wrap64 (x8 + 1))) else (if x11 = true then (spec_l12Row.l0 k x1 (wrap64 (x2 + 2)) (wrap64 (x7 - x10)) (wrap64 (x8 - x9)) x9 x10 (!x11)) else (spec_l12Row.l0 k x1 (wrap64 (x2 + 2)) (wrap64 (x7 + x9)) (wrap64 (x8 + x10)) x9 x10 (!x11)))
end
def spec_l12Row.f (k : Nat) (a0 : Int) (a1 : Int) (a2 : Int) : Option (Int × Int) := spec_l12Row.l0 k a1 a2 a0 a0 a0 a0 true
set_option maxHeartbeats 8000000 in
set_option maxRecDepth 100000 in
theorem spec_l12Row.calls (k : Nat) (a0 : Int) (a1 : Int) (a2 : Int) (r1 : Int) (r2 : Int) (w : World) (h : spec_l12Row.f k a0 a1 a2 = some (r1, r2)) :
  Calls Try.prog 105 #[.int .i64 a0, .int .i64 a1, .int .i64 a2] w fun e w' => e = .returned (.agg #[.int .i64 r1, .int .i64 r2]) ∧ Below w.heap.size w w' := by
 have hu42 := Try.underlying42
 have HB := Aside0.mk (Below.refl w.heap.size w)
 have H : (spec_l12Row.l0 k a1 a2 a0 a0 a0 a0 true) = some (r1, r2) := h
 clear h
 have H' := Aside0.mk H
 clear H
 go_enter Try.func105, Try.ntmps105
 go_wp2_with (first | ((with_reducible refine gate_dst (N := 6) rfl ?_); refine bE 6 #[.int .i64 0, .int .i64 0] 42 ?_; intro gb124 hg w4 hbox hb; have BK124 := Aside0.mk (hbox); have GE124 := gw hg (hz0 HB); replace HB := hbb (hz0 HB) hb; clear hb hbox hg))
 go_loopg [2, 7, 8, 9, 10, 11] k (fun kq v2 v7 v8 v9 v10 v11 w' => ∃ (x2_1 : Int) (x7_1 : Int) (x8_1 : Int) (x9_1 : Int) (x10_1 : Int) (x11_1 : Bool) (x125000_1 : Int) (x125001_1 : Int), v2 = .int .i64 x2_1 ∧ v7 = .int .i64 x7_1 ∧ v8 = .int .i64 x8_1 ∧ v9 = .int .i64 x9_1 ∧ v10 = .int .i64 x10_1 ∧ v11 = .bool x11_1 ∧ Aside0 (spec_l12Row.l0 kq a1 x2_1 x7_1 x8_1 x9_1 x10_1 x11_1 = some (r1, r2)) ∧ Aside0 (kq ≤ k) ∧ Aside0 (w'.heap[gb124]? = some (.cells #[.int .i64 x125000_1, .int .i64 x125001_1] 42 (0, 0))) ∧ Aside0 (Below w.heap.size w w'))
 case atStart => exact ⟨(a2), (a0), (a0), (a0), (a0), (true), (0), (0), (by first | rfl | (simp; done) | (simp [*]; done)), (by first | rfl | (simp; done) | (simp [*]; done)), (by first | rfl | (simp; done) | (simp [*]; done)), (by first | rfl | (simp; done) | (simp [*]; done)), (by first | rfl | (simp; done) | (simp [*]; done)), (by first | rfl | (simp; done) | (simp [*]; done)), H', ⟨Nat.le_refl _⟩, ⟨bk BK124⟩, ⟨hzs HB⟩⟩
 case round =>
  clear H'
  try clear c1
  try clear p2
  obtain ⟨x2_1, x7_1, x8_1, x9_1, x10_1, x11_1, x125000_1, x125001_1, rfl, rfl, rfl, rfl, rfl, rfl, HA, HK1, BK124, HB⟩ := hrel
  cases gk with
  | zero => exact absurd HA.out (by simp [spec_l12Row.l0])
  | succ k1 =>
   have H := HA.out
   clear HA
   simp only [spec_l12Row.l0] at H
   have HC5 := Aside0.mk H
   clear H
   go_upto_region 6 with (fail)
   go_cut [21] (fun v21 wc => ∃ (kq : Nat) (x21_4 : Bool), v21 = .bool x21_4 ∧ Aside0 (spec_l12Row.j1 kq a1 x2_1 x7_1 x8_1 x9_1 x10_1 x11_1 x21_4 = some (r1, r2)) ∧ Aside0 (kq ≤ k1) ∧ Aside0 (wc.heap[gb124]? = some (.cells #[.int .i64 x125000_1, .int .i64 x125001_1] 42 (0, 0))) ∧ Aside0 (Below w.heap.size w wc))
   case first =>
    have H := HC5.out
    clear HC5
    by_cases c6 : x10_1 > 0
    ·rw [if_pos c6] at H
     have c6b0 : decide (0 < x10_1) = true := decide_eq_true c6
     clear c6
     (first | rw [c6b0] | (simp only [i64_w, i32_w]; rw [c6b0]) | skip)
     have H' := Aside0.mk H
     clear H
     go_wp2
     go_meet
     case rel => exact ⟨_, (decide (x2_1 < 40)), (by first | rfl | (simp; done) | (simp [*]; done)), H', ⟨by have := HK1.out; first | omega | exact Nat.le_refl _⟩, ⟨bk BK124⟩, ⟨hzs HB⟩⟩
    ·rw [if_neg c6] at H
     have c6b0 : decide (0 < x10_1) = false := decide_eq_false c6
     clear c6
     (first | rw [c6b0] | (simp only [i64_w, i32_w]; rw [c6b0]) | skip)
     have H' := Aside0.mk H
     clear H
     go_wp2
     go_meet
     case rel => exact ⟨_, (false), (by first | rfl | (simp; done) | (simp [*]; done)), H', ⟨by have := HK1.out; first | omega | exact Nat.le_refl _⟩, ⟨bk BK124⟩, ⟨hzs HB⟩⟩
   case rest =>
    clear HC5
    try clear c1
    try clear p2
    try clear c6
    try clear c6b0
    try clear p2
    obtain ⟨kq, x21_4, rfl, HA, HJ4, BK124, HB⟩ := hcut
    cases kq with
    | zero => exact absurd HA.out (by simp [spec_l12Row.j1])
    | succ kj4 =>
     have H := HA.out
     clear HA
     simp only [spec_l12Row.j1] at H
     by_cases c7 : x21_4 = true
     ·subst c7
      have H1 : ((spec_l12Times.f a1 a1 false).bind fun t125 => ((spec_l12Times.f x9_1 t125 false).bind fun t126 => ((spec_l12Over.f t126 (wrap64 (x2_1 * (wrap64 (x2_1 + 1)))) false).bind fun t127 => ((spec_l12Times.f a1 a1 true).bind fun t128 => ((spec_l12Times.f x10_1 t128 true).bind fun t129 => ((spec_l12Over.f t129 (wrap64 (x2_1 * (wrap64 (x2_1 + 1)))) true).bind fun t130 => (if t130 = 1 then (spec_l12Row.j2 kj4 a1 x2_1 x7_1 x8_1 t127 t130 x11_1 (t127 == 0)) else (spec_l12Row.j2 kj4 a1 x2_1 x7_1 x8_1 t127 t130 x11_1 false)))))))) = some (r1, r2) := by rw [if_pos rfl] at H; exact H
      clear H
      have H := H1
      clear H1
      replace H := Option.bind_eq_some_iff.mp H
      obtain ⟨t125, A80, H⟩ := H
      try dsimp only at H
      have A8 := Aside0.mk A80
      clear A80
      replace H := Option.bind_eq_some_iff.mp H
      obtain ⟨t126, A90, H⟩ := H
      try dsimp only at H
      have A9 := Aside0.mk A90
      clear A90
      replace H := Option.bind_eq_some_iff.mp H
      obtain ⟨t127, A100, H⟩ := H
      try dsimp only at H
      have A10 := Aside0.mk A100
      clear A100
      replace H := Option.bind_eq_some_iff.mp H
      obtain ⟨t128, A110, H⟩ := H
      try dsimp only at H
      have A11 := Aside0.mk A110
      clear A110
      replace H := Option.bind_eq_some_iff.mp H
      obtain ⟨t129, A120, H⟩ := H
      try dsimp only at H
      have A12 := Aside0.mk A120
      clear A120
      replace H := Option.bind_eq_some_iff.mp H
      obtain ⟨t130, A130, H⟩ := H
      try dsimp only at H
      have A13 := Aside0.mk A130
      clear A130
      have HC14 := Aside0.mk H
      clear H
      go_upto_region 9 with (first | ((with_reducible refine gate_callee (f := 108) rfl ?_); refine gL 25 Try.func108 #[.int .i64 a1, .int .i64 a1, .bool false] ?_; (with_reducible refine (spec_l12Times.calls a1 a1 false t125 _ A8.out).mono ?_); rintro e w' ⟨rfl, ⟨nd, rfl⟩⟩; refine ⟨_, rfl, ?_⟩) | ((with_reducible refine gate_callee (f := 108) rfl ?_); refine gL 26 Try.func108 #[.int .i64 x9_1, .int .i64 t125, .bool false] ?_; (with_reducible refine (spec_l12Times.calls x9_1 t125 false t126 _ A9.out).mono ?_); rintro e w' ⟨rfl, ⟨nd, rfl⟩⟩; refine ⟨_, rfl, ?_⟩) | ((with_reducible refine gate_callee (f := 107) rfl ?_); refine gL 31 Try.func107 #[.int .i64 t126, .int .i64 (wrap64 (x2_1 * (wrap64 (x2_1 + 1)))), .bool false] ?_; (with_reducible refine (spec_l12Over.calls t126 (wrap64 (x2_1 * (wrap64 (x2_1 + 1)))) false t127 _ A10.out).mono ?_); rintro e w' ⟨rfl, ⟨nd, rfl⟩⟩; refine ⟨_, rfl, ?_⟩) | ((with_reducible refine gate_callee (f := 108) rfl ?_); refine gL 35 Try.func108 #[.int .i64 a1, .int .i64 a1, .bool true] ?_; (with_reducible refine (spec_l12Times.calls a1 a1 true t128 _ A11.out).mono ?_); rintro e w' ⟨rfl, ⟨nd, rfl⟩⟩; refine ⟨_, rfl, ?_⟩) | ((with_reducible refine gate_callee (f := 108) rfl ?_); refine gL 36 Try.func108 #[.int .i64 x10_1, .int .i64 t128, .bool true] ?_; (with_reducible refine (spec_l12Times.calls x10_1 t128 true t129 _ A12.out).mono ?_); rintro e w' ⟨rfl, ⟨nd, rfl⟩⟩; refine ⟨_, rfl, ?_⟩) | ((with_reducible refine gate_callee (f := 107) rfl ?_); refine gL 41 Try.func107 #[.int .i64 t129, .int .i64 (wrap64 (x2_1 * (wrap64 (x2_1 + 1)))), .bool true] ?_; (with_reducible refine (spec_l12Over.calls t129 (wrap64 (x2_1 * (wrap64 (x2_1 + 1)))) true t130 _ A13.out).mono ?_); rintro e w' ⟨rfl, ⟨nd, rfl⟩⟩; refine ⟨_, rfl, ?_⟩))
      (try simp only [Act.put, List.setIfInBounds_toArray, List.set_cons_zero, List.set_cons_succ])
      go_cut [47] (fun v47 wc => ∃ (kq : Nat) (x47_13 : Bool), v47 = .bool x47_13 ∧ Aside0 (spec_l12Row.j2 kq a1 x2_1 x7_1 x8_1 t127 t130 x11_1 x47_13 = some (r1, r2)) ∧ Aside0 (kq ≤ kj4) ∧ Aside0 (wc.heap[gb124]? = some (.cells #[.int .i64 x125000_1, .int .i64 x125001_1] 42 (0, 0))) ∧ Aside0 (Below w.heap.size w wc))
      case first =>
       have H := HC14.out
       clear HC14
       by_cases c15 : t130 = 1
       ·rw [if_pos c15] at H
        have c15b0 : (t130 == 1) = true := beq_iff_eq.mpr c15
        have c15b1 : (t130 != 1) = false := bne_eq_false_iff_eq.mpr c15
        clear c15
        (first | rw [c15b0] | (simp only [i64_w, i32_w]; rw [c15b0]) | skip)
        have H' := Aside0.mk H
        clear H
        go_wp2
        go_meet
        case rel => exact ⟨_, ((t127 == 0)), (by first | rfl | (simp; done) | (simp [*]; done)), H', ⟨by have := HK1.out; have := HJ4.out; first | omega | exact Nat.le_refl _⟩, ⟨bk BK124⟩, ⟨hzs HB⟩⟩
       ·rw [if_neg c15] at H
        have c15b0 : (t130 == 1) = false := beq_eq_false_iff_ne.mpr c15
        have c15b1 : (t130 != 1) = true := bne_iff_ne.mpr c15
        (first | rw [c15b0] | (simp only [i64_w, i32_w]; rw [c15b0]) | skip)
        have H' := Aside0.mk H
        clear H
        go_wp2
        go_meet
        case rel => exact ⟨_, (false), (by first | rfl | (simp; done) | (simp [*]; done)), H', ⟨by have := HK1.out; have := HJ4.out; first | omega | exact Nat.le_refl _⟩, ⟨bk BK124⟩, ⟨hzs HB⟩⟩
      case rest =>
       clear HC14
       try clear c1
       try clear p2
       try clear c6
       try clear c6b0
       try clear p6
       try clear c7
       try clear c10
       try clear c15
       try clear c15b0
       try clear c15b1
       try clear p2
       obtain ⟨kq, x47_13, rfl, HA, HJ13, BK124, HB⟩ := hcut
       cases kq with
       | zero => exact absurd HA.out (by simp [spec_l12Row.j2])
       | succ kj13 =>
        have H := HA.out
        clear HA
        simp only [spec_l12Row.j2] at H
        by_cases c16 : x47_13 = true
        ·subst c16
         have H1 : (some (wrap64 (x7_1 - 1), wrap64 (x8_1 + 1))) = some (r1, r2) := by rw [if_pos rfl] at H; exact H
         clear H
         have H := H1
         clear H1
         simp only [Option.some.injEq, Prod.mk.injEq] at H
         obtain ⟨rfl, rfl⟩ := H
         obtain ⟨hcz17_0, hcz17_1, hfz17_0, hfz17_1⟩ := cz2 BK124
         go_wp2
         refine bodyPost_ret (results_cell_row rfl _ _ gb124 42 #[.int .i64 (wrap64 (x7_1 - 1)), .int .i64 (wrap64 (x8_1 + 1))] (0, 0) _ rfl (bkp BK124) Try.underlying42 rfl (by kernel_rfl)) rfl ?_
         exact ⟨by first | rfl | (simp [errW_none, errW_some] <;> rfl) | (simp [*, errW_none, errW_some] <;> rfl), hzs HB⟩
        ·replace c16 := Bool.eq_false_iff.mpr c16
         subst c16
         have H1 : (if x11_1 = true then (spec_l12Row.l0 kj13 a1 (wrap64 (x2_1 + 2)) (wrap64 (x7_1 - t130)) (wrap64 (x8_1 - t127)) t127 t130 (!x11_1)) else (spec_l12Row.l0 kj13 a1 (wrap64 (x2_1 + 2)) (wrap64 (x7_1 + t127)) (wrap64 (x8_1 + t130)) t127 t130 (!x11_1))) = some (r1, r2) := by rw [if_neg (show ¬ (false = true) by decide)] at H; exact H
         clear H
         have H := H1
         clear H1
         by_cases c18 : x11_1 = true
         ·subst c18
          have H1 : (spec_l12Row.l0 kj13 a1 (wrap64 (x2_1 + 2)) (wrap64 (x7_1 - t130)) (wrap64 (x8_1 - t127)) t127 t130 (!true)) = some (r1, r2) := by rw [if_pos rfl] at H; exact H
          clear H
          have H := H1
          clear H1
          have H' := Aside0.mk H
          clear H
          go_wp2
          go_roundg kj13
          case measure => have := HK1.out; have := HJ4.out; have := HJ13.out; omega
          case rel => exact ⟨(wrap64 (x2_1 + 2)), (wrap64 (x7_1 - t130)), (wrap64 (x8_1 - t127)), (t127), (t130), (!true), (x125000_1), (x125001_1), (by first | rfl | (simp; done) | (simp [*]; done)), (by first | rfl | (simp; done) | (simp [*]; done)), (by first | rfl | (simp; done) | (simp [*]; done)), (by first | rfl | (simp; done) | (simp [*]; done)), (by first | rfl | (simp; done) | (simp [*]; done)), (by first | rfl | (simp; done) | (simp [*]; done)), H', ⟨by have := HK1.out; have := HJ4.out; have := HJ13.out; omega⟩, ⟨bk BK124⟩, ⟨hzs HB⟩⟩
         ·replace c18 := Bool.eq_false_iff.mpr c18
          subst c18
          have H1 : (spec_l12Row.l0 kj13 a1 (wrap64 (x2_1 + 2)) (wrap64 (x7_1 + t127)) (wrap64 (x8_1 + t130)) t127 t130 (!false)) = some (r1, r2) := by rw [if_neg (show ¬ (false = true) by decide)] at H; exact H
          clear H
          have H := H1
          clear H1
          have H' := Aside0.mk H
          clear H
          go_wp2
          go_roundg kj13
          case measure => have := HK1.out; have := HJ4.out; have := HJ13.out; omega
          case rel => exact ⟨(wrap64 (x2_1 + 2)), (wrap64 (x7_1 + t127)), (wrap64 (x8_1 + t130)), (t127), (t130), (!false), (x125000_1), (x125001_1), (by first | rfl | (simp; done) | (simp [*]; done)), (by first | rfl | (simp; done) | (simp [*]; done)), (by first | rfl | (simp; done) | (simp [*]; done)), (by first | rfl | (simp; done) | (simp [*]; done)), (by first | rfl | (simp; done) | (simp [*]; done)), (by first | rfl | (simp; done) | (simp [*]; done)), H', ⟨by have := HK1.out; have := HJ4.out; have := HJ13.out; omega⟩, ⟨bk BK124⟩, ⟨hzs HB⟩⟩
     ·replace c7 := Bool.eq_false_iff.mpr c7
      subst c7
      have H1 : (some (x7_1, x8_1)) = some (r1, r2) := by rw [if_neg (show ¬ (false = true) by decide)] at H; exact H
      clear H
      have H := H1
      clear H1
      simp only [Option.some.injEq, Prod.mk.injEq] at H
      obtain ⟨rfl, rfl⟩ := H
      obtain ⟨hcz19_0, hcz19_1, hfz19_0, hfz19_1⟩ := cz2 BK124
      go_wp2
      refine bodyPost_ret (results_cell_row rfl _ _ gb124 42 #[.int .i64 x7_1, .int .i64 x8_1] (0, 0) _ rfl (bkp BK124) Try.underlying42 rfl (by kernel_rfl)) rfl ?_
      exact ⟨by first | rfl | (simp [errW_none, errW_some] <;> rfl) | (simp [*, errW_none, errW_some] <;> rfl), hzs HB⟩


/-! ### spec_l12Near: function 101 -/
def spec_l12Near.f (k : Nat) (a0 : Int) : Option (Int × Int) := (spec_l12Arc.f a0).bind fun bt140 => ((spec_l12Row.f k 1000000000 bt140.2 1).bind fun bt143 => ((spec_l12Row.f k 1000000000 bt140.1 1).bind fun bt145 => (some (bt143.1, mn bt145.2 1000000000))))
def spec_l12Near.T2 : Bool × List (List Nat × List Nat) := (true, [([], []), ([0], [0]), ([1], [1]), ([2], [2]), ([], []), ([4], [4]), ([5, 2], [5]), ([6], [6]), ([7], [7]), ([3, 8], [3, 8]), ([9, 6, 0, 1, 2, 3, 4, 5, 6, 7, 8, 9], [9])])
def spec_l12Near.B2 : List Nat := [0, 1, 3, 7, 0, 16, 55, 119, 247, 511, 1023]
theorem spec_l12Near.tab2 : rtab .any (opsOf Try.f101 2) = spec_l12Near.T2 := by kernel_rfl
theorem spec_l12Near.bits2 : waitsOk spec_l12Near.T2.2 spec_l12Near.B2 = true := by kernel_rfl
set_option maxHeartbeats 8000000 in
set_option maxRecDepth 100000 in
theorem spec_l12Near.calls (k : Nat) (a0 : Int) (r1 : Int) (r2 : Int) (w : World) (h : spec_l12Near.f k a0 = some (r1, r2)) :
  Calls Try.prog 101 #[.int .i64 a0] w fun e w' => e = .returned (.agg #[.int .i64 r1, .int .i64 r2]) ∧ Below w.heap.size w w' := by
 have hu42 := Try.underlying42
 have HB := Aside0.mk (Below.refl w.heap.size w)
 have H : ((spec_l12Arc.f a0).bind fun bt140 => ((spec_l12Row.f k 1000000000 bt140.2 1).bind fun bt143 => ((spec_l12Row.f k 1000000000 bt140.1 1).bind fun bt145 => (some (bt143.1, mn bt145.2 1000000000))))) = some (r1, r2) := h
 clear h
 replace H := Option.bind_eq_some_iff.mp H
 obtain ⟨⟨t140, t141⟩, A20, H⟩ := H
 try dsimp only at H
 have A2 := Aside0.mk A20
 clear A20
 replace H := Option.bind_eq_some_iff.mp H
 obtain ⟨⟨t143, t144⟩, A30, H⟩ := H
 try dsimp only at H
 have A3 := Aside0.mk A30
 clear A30
 replace H := Option.bind_eq_some_iff.mp H
 obtain ⟨⟨t145, t146⟩, A40, H⟩ := H
 try dsimp only at H
 have A4 := Aside0.mk A40
 clear A40
 obtain ⟨ji5, hji5⟩ : ∃ j_ : Int, (mn t146 1000000000) = j_ := ⟨_, rfl⟩
 replace H : (some (t143, ji5)) = some (r1, r2) := by first | (rw [hji5] at H; exact H) | (simp only [hji5] at H ⊢; exact H)
 (try rw [hji5] at A2)
 (try rw [hji5] at A3)
 (try rw [hji5] at A4)
 (try (have hji5h : ji5 ≤ 1000000000 := by (rw [← hji5]; unfold mn; (repeat' split) <;> omega)))
 (try (have hji5g : ji5 ≤ 64 := by omega))
 have hji5_ : (if 1000000000 < t146 then 1000000000 else t146) = ji5 := hji5
 simp only [Option.some.injEq, Prod.mk.injEq] at H
 obtain ⟨rfl, rfl⟩ := H
 go_enter Try.func101, Try.ntmps101
 try go_wp2_with (first | ((with_reducible refine gate_dst (N := 2) rfl ?_); refine bE 2 #[.int .i64 0, .int .i64 0] 42 ?_; intro gb139 hg w6 hbox hb; have BK139 := Aside0.mk (hbox); have GE139 := gw hg (hz0 HB); replace HB := hbb (hz0 HB) hb; clear hb hbox hg) | ((with_reducible refine gate_callee (f := 104) rfl ?_); refine gL 5 Try.func104 #[.int .i64 a0] ?_; (with_reducible refine (spec_l12Arc.calls a0 t140 t141 _ A2.out).mono ?_); rintro e w7 ⟨rfl, hb⟩; refine ⟨_, rfl, ?_⟩; replace BK139 := bb (bk BK139) hb; replace HB := hbb (hzs HB) hb; clear hb) | ((with_reducible refine gate_dst (N := 3) rfl ?_); refine bE 3 #[.int .i64 0, .int .i64 0] 42 ?_; intro gb142 hg w8 hbox hb; have BK142 := Aside0.mk (hbox); have GE142 := gw hg (hzs HB); have NB139_142 := nl hg (bk BK139); have NB142_139 := ng hg (bk BK139); replace BK139 := bb (bk BK139) hb; replace HB := hbb (hzs HB) hb; clear hb hbox hg; have hnb9 := NB142_139.out; have hnc9 := NB139_142.out; obtain ⟨hcz10_0, hcz10_1, hfz10_0, hfz10_1⟩ := cz2 BK142))
 have n0_ : Aside0 (((w8.setCell ⟨gb142, 0, none⟩ (.int .i64 t140)).setCell ⟨gb142, 1, none⟩ (.int .i64 t141)).heap[gb139]? = some (.cells #[.int .i64 0, .int .i64 0] 42 (0, 0))) := ⟨bk1 BK139 NB139_142⟩
 have n1_ : Aside0 (((w8.setCell ⟨gb142, 0, none⟩ (.int .i64 t140)).setCell ⟨gb142, 1, none⟩ (.int .i64 t141)).heap[gb142]? = some (.cells #[.int .i64 t140, .int .i64 t141] 42 (0, 0))) := ⟨bkp BK142⟩
 have n2_ : Aside0 (Below w.heap.size w ((w8.setCell ⟨gb142, 0, none⟩ (.int .i64 t140)).setCell ⟨gb142, 1, none⟩ (.int .i64 t141))) := ⟨hzs HB⟩
 (try clear BK139)
 (try clear BK142)
 (try clear HB)
 generalize ((w8.setCell ⟨gb142, 0, none⟩ (.int .i64 t140)).setCell ⟨gb142, 1, none⟩ (.int .i64 t141)) = w11 at n0_ n1_ n2_ ⊢
 have BK139 := n0_
 have BK142 := n1_
 have HB := n2_
 clear n0_ n1_ n2_
 replace BK139 := Aside0.mk (blk_drew BK139.out)
 replace BK142 := Aside0.mk (blk_drew BK142.out)
 replace HB := Aside0.mk (below_drew1 HB.out)
 refine start_ (n := 11) (S := fun w' => w'.cell? ⟨gb142, 0, none⟩ = some (.int .i64 t140) ∧ w'.cell? ⟨gb142, 1, none⟩ = some (.int .i64 t141)) (ds := []) #[false, false, false, false, false, false, false, false, false, false, false] (by kernel_rfl) rfl rfl ⟨cw0 BK142, cw1 BK142⟩ (fun hHeld => ?_); refine with_tabW spec_l12Near.tab2 spec_l12Near.bits2 (fun HT_ HW_ => ?_)
 generalize w11.drew = w12 at BK139 BK142 HB hHeld ⊢
 refine pU 0 6 #[true, false, false, false, false, false, false, false, false, false, false] HT_ ?_
 refine pU 4 10 #[true, false, false, false, true, false, false, false, false, false, false] HT_ ?_
 refine take_ (i := 1) (N := some 7) (v := ?_) (a' := ?_) #[true, true, false, false, true, false, false, false, false, false, false] rfl rfl (take_ofW HT_.out HW_.out (by kernel_rfl)) (fun _ _ _ h => h) (Or.inl ⟨by rfl, ?_⟩) hHeld ?_ ?_
 rotate_left
 ·rintro w' ⟨s0, s1⟩
  go_simp
  with_reducible rfl
 rotate_left
 ·simp only [Act.put, List.setIfInBounds_toArray, List.set_cons_zero, List.set_cons_succ, i64_w, i32_w]
  rfl
 refine take_ (i := 5) (N := some 11) (v := ?_) (a' := ?_) #[true, true, false, false, true, true, false, false, false, false, false] rfl rfl (take_ofW HT_.out HW_.out (by kernel_rfl)) (fun _ _ _ h => h) (Or.inl ⟨by rfl, ?_⟩) hHeld ?_ ?_
 rotate_left
 ·rintro w' ⟨s0, s1⟩
  go_simp
  with_reducible rfl
 rotate_left
 ·simp only [Act.put, List.setIfInBounds_toArray, List.set_cons_zero, List.set_cons_succ, i64_w, i32_w]
  rfl
 refine oN 2 8 #[true, true, true, false, true, true, false, false, false, false, false] HT_ (fun K hK => ?_)
 refine gS Try.func105 #[.int .i64 1000000000, .int .i64 t141, .int .i64 1] ?_
 with_reducible refine (spec_l12Row.calls k 1000000000 t141 1 t143 t144 _ A3.out).mono ?_
 rintro e w13 ⟨rfl, hb⟩
 refine ⟨_, rfl, ?_⟩
 replace BK139 := bb (bk BK139) hb
 replace BK142 := bb (bk BK142) hb
 replace HB := hbb (hzs HB) hb
 clear hb
 refine hK.out _ _ ⟨cw0 BK142, cw1 BK142⟩ (fun hHeld => ?_)
 clear hK K
 refine nP ?_
 refine pU 3 9 #[true, true, true, true, true, true, false, false, false, false, false] HT_ ?_
 refine oN 6 12 #[true, true, true, true, true, true, true, false, false, false, false] HT_ (fun K hK => ?_)
 refine gS Try.func105 #[.int .i64 1000000000, .int .i64 t140, .int .i64 1] ?_
 with_reducible refine (spec_l12Row.calls k 1000000000 t140 1 t145 t146 _ A4.out).mono ?_
 rintro e w14 ⟨rfl, hb⟩
 refine ⟨_, rfl, ?_⟩
 replace BK139 := bb (bk BK139) hb
 replace BK142 := bb (bk BK142) hb
 replace HB := hbb (hzs HB) hb
 clear hb
 refine hK.out _ _ ⟨cw0 BK142, cw1 BK142⟩ (fun hHeld => ?_)
 clear hK K
 refine nP ?_
 refine pU 7 13 #[true, true, true, true, true, true, true, true, false, false, false] HT_ ?_
 refine pU 8 14 #[true, true, true, true, true, true, true, true, true, false, false] HT_ ?_
 refine pU 9 15 #[true, true, true, true, true, true, true, true, true, true, false] HT_ ?_
 refine one_ (i := 10) (N := none) #[true, true, true, true, true, true, true, true, true, true, true] rfl rfl (one_of HT_.out (by kernel_rfl)) (by decide) (fun K hK => ?_)
 have hs15 : w14.cell? ⟨gb139, 0, none⟩ = some (.int .i64 0) := (blk_cell BK139.out 0).trans rfl
 have hfs15 := blk_frozen BK139.out 0
 have hns15_1 := NB142_139.out
 have hms15_1 := NB139_142.out
 have hs16 : w14.cell? ⟨gb139, 1, none⟩ = some (.int .i64 0) := (blk_cell BK139.out 1).trans rfl
 have hfs16 := blk_frozen BK139.out 1
 have hns16_1 := NB142_139.out
 have hms16_1 := NB139_142.out
 refine skip_ (w1 := ?_) (by rfl) rfl ?_ ?_
 rotate_left
 ·go_simp
  rfl
 refine hK.out _ _ ⟨((cell_far (p := ⟨gb139, _, none⟩) NB142_139.out _).trans (((cell_far (p := ⟨gb139, _, none⟩) NB142_139.out _).trans (hHeld.1)))), ((cell_far (p := ⟨gb139, _, none⟩) NB142_139.out _).trans (((cell_far (p := ⟨gb139, _, none⟩) NB142_139.out _).trans (hHeld.2))))⟩ (fun hHeld => ?_)
 clear hK K
 refine done_ (done_of HT_.out (by kernel_rfl)) ?_
 try go_wp2
 refine bodyPost_ret (results_cell_row rfl _ _ gb139 42 #[.int .i64 t143, .int .i64 ji5] (0, 0) _ rfl (bkp BK139) Try.underlying42 rfl (by kernel_rfl)) rfl ?_
 exact ⟨by first | rfl | (simp [errW_none, errW_some] <;> rfl) | (simp only [← hji5]; first | rfl | (simp [errW_none, errW_some] <;> rfl)) | (simp [*, errW_none, errW_some] <;> rfl), hzs HB⟩


/-! ### spec_l12Small: function 100 -/
def spec_l12Small.f (k : Nat) (a0 : Int) : Option (Int × Int) := (spec_l12Arc.f a0).bind fun bt132 => ((spec_l12Row.f k bt132.1 bt132.1 2).bind fun bt135 => ((spec_l12Row.f k bt132.2 bt132.2 2).bind fun bt137 => (some (mx bt135.1 0, bt137.2))))
def spec_l12Small.T2 : Bool × List (List Nat × List Nat) := (true, [([], []), ([0], [0]), ([], []), ([2], [2]), ([1, 3], [1, 3]), ([4], [4]), ([5], [5]), ([], []), ([7], [7]), ([], []), ([9], [9]), ([8, 10, 4], [8, 10]), ([11], [11]), ([6, 12], [6, 12]), ([13, 11, 0, 1, 2, 3, 4, 5, 6, 7, 8, 9, 10, 11, 12, 13], [13])])
def spec_l12Small.B2 : List Nat := [0, 1, 0, 4, 15, 31, 63, 0, 128, 0, 512, 1951, 3999, 8191, 16383]
theorem spec_l12Small.tab2 : rtab .any (opsOf Try.f100 2) = spec_l12Small.T2 := by kernel_rfl
theorem spec_l12Small.bits2 : waitsOk spec_l12Small.T2.2 spec_l12Small.B2 = true := by kernel_rfl
set_option maxHeartbeats 8000000 in
set_option maxRecDepth 100000 in
theorem spec_l12Small.calls (k : Nat) (a0 : Int) (r1 : Int) (r2 : Int) (w : World) (h : spec_l12Small.f k a0 = some (r1, r2)) :
  Calls Try.prog 100 #[.int .i64 a0] w fun e w' => e = .returned (.agg #[.int .i64 r1, .int .i64 r2]) ∧ Below w.heap.size w w' := by
 have hu42 := Try.underlying42
 have HB := Aside0.mk (Below.refl w.heap.size w)
 have H : ((spec_l12Arc.f a0).bind fun bt132 => ((spec_l12Row.f k bt132.1 bt132.1 2).bind fun bt135 => ((spec_l12Row.f k bt132.2 bt132.2 2).bind fun bt137 => (some (mx bt135.1 0, bt137.2))))) = some (r1, r2) := h
 clear h
 replace H := Option.bind_eq_some_iff.mp H
 obtain ⟨⟨t132, t133⟩, A20, H⟩ := H
 try dsimp only at H
 have A2 := Aside0.mk A20
 clear A20
 replace H := Option.bind_eq_some_iff.mp H
 obtain ⟨⟨t135, t136⟩, A30, H⟩ := H
 try dsimp only at H
 have A3 := Aside0.mk A30
 clear A30
 obtain ⟨ji4, hji4⟩ : ∃ j_ : Int, (mx t135 0) = j_ := ⟨_, rfl⟩
 replace H : ((spec_l12Row.f k t133 t133 2).bind fun bt137 => (some (ji4, bt137.2))) = some (r1, r2) := by first | (rw [hji4] at H; exact H) | (simp only [hji4] at H ⊢; exact H)
 (try rw [hji4] at A2)
 (try rw [hji4] at A3)
 (try (have hji4l : 0 ≤ ji4 := by (rw [← hji4]; unfold mx; (repeat' split) <;> omega)))
 (try (have hji4m : 0 ≤ ji4 := by omega))
 have hji4_ : (if t135 < 0 then 0 else t135) = ji4 := hji4
 replace H := Option.bind_eq_some_iff.mp H
 obtain ⟨⟨t137, t138⟩, A50, H⟩ := H
 try dsimp only at H
 have A5 := Aside0.mk A50
 clear A50
 simp only [Option.some.injEq, Prod.mk.injEq] at H
 obtain ⟨rfl, rfl⟩ := H
 go_enter Try.func100, Try.ntmps100
 try go_wp2_with (first | ((with_reducible refine gate_dst (N := 2) rfl ?_); refine bE 2 #[.int .i64 0, .int .i64 0] 42 ?_; intro gb131 hg w6 hbox hb; have BK131 := Aside0.mk (hbox); have GE131 := gw hg (hz0 HB); replace HB := hbb (hz0 HB) hb; clear hb hbox hg) | ((with_reducible refine gate_callee (f := 104) rfl ?_); refine gL 5 Try.func104 #[.int .i64 a0] ?_; (with_reducible refine (spec_l12Arc.calls a0 t132 t133 _ A2.out).mono ?_); rintro e w7 ⟨rfl, hb⟩; refine ⟨_, rfl, ?_⟩; replace BK131 := bb (bk BK131) hb; replace HB := hbb (hzs HB) hb; clear hb) | ((with_reducible refine gate_dst (N := 3) rfl ?_); refine bE 3 #[.int .i64 0, .int .i64 0] 42 ?_; intro gb134 hg w8 hbox hb; have BK134 := Aside0.mk (hbox); have GE134 := gw hg (hzs HB); have NB131_134 := nl hg (bk BK131); have NB134_131 := ng hg (bk BK131); replace BK131 := bb (bk BK131) hb; replace HB := hbb (hzs HB) hb; clear hb hbox hg; have hnb9 := NB134_131.out; have hnc9 := NB131_134.out; obtain ⟨hcz10_0, hcz10_1, hfz10_0, hfz10_1⟩ := cz2 BK134))
 have n0_ : Aside0 (((w8.setCell ⟨gb134, 0, none⟩ (.int .i64 t132)).setCell ⟨gb134, 1, none⟩ (.int .i64 t133)).heap[gb131]? = some (.cells #[.int .i64 0, .int .i64 0] 42 (0, 0))) := ⟨bk1 BK131 NB131_134⟩
 have n1_ : Aside0 (((w8.setCell ⟨gb134, 0, none⟩ (.int .i64 t132)).setCell ⟨gb134, 1, none⟩ (.int .i64 t133)).heap[gb134]? = some (.cells #[.int .i64 t132, .int .i64 t133] 42 (0, 0))) := ⟨bkp BK134⟩
 have n2_ : Aside0 (Below w.heap.size w ((w8.setCell ⟨gb134, 0, none⟩ (.int .i64 t132)).setCell ⟨gb134, 1, none⟩ (.int .i64 t133))) := ⟨hzs HB⟩
 (try clear BK131)
 (try clear BK134)
 (try clear HB)
 generalize ((w8.setCell ⟨gb134, 0, none⟩ (.int .i64 t132)).setCell ⟨gb134, 1, none⟩ (.int .i64 t133)) = w11 at n0_ n1_ n2_ ⊢
 have BK131 := n0_
 have BK134 := n1_
 have HB := n2_
 clear n0_ n1_ n2_
 replace BK131 := Aside0.mk (blk_drew BK131.out)
 replace BK134 := Aside0.mk (blk_drew BK134.out)
 replace HB := Aside0.mk (below_drew1 HB.out)
 refine start_ (n := 15) (S := fun w' => w'.cell? ⟨gb134, 0, none⟩ = some (.int .i64 t132) ∧ w'.cell? ⟨gb134, 1, none⟩ = some (.int .i64 t133)) (ds := []) #[false, false, false, false, false, false, false, false, false, false, false, false, false, false, false] (by kernel_rfl) rfl rfl ⟨cw0 BK134, cw1 BK134⟩ (fun hHeld => ?_); refine with_tabW spec_l12Small.tab2 spec_l12Small.bits2 (fun HT_ HW_ => ?_)
 generalize w11.drew = w12 at BK131 BK134 HB hHeld ⊢
 refine pU 0 6 #[true, false, false, false, false, false, false, false, false, false, false, false, false, false, false] HT_ ?_
 refine pU 2 8 #[true, false, true, false, false, false, false, false, false, false, false, false, false, false, false] HT_ ?_
 refine pU 7 13 #[true, false, true, false, false, false, false, true, false, false, false, false, false, false, false] HT_ ?_
 refine pU 9 15 #[true, false, true, false, false, false, false, true, false, true, false, false, false, false, false] HT_ ?_
 refine take_ (i := 1) (N := some 7) (v := ?_) (a' := ?_) #[true, true, true, false, false, false, false, true, false, true, false, false, false, false, false] rfl rfl (take_ofW HT_.out HW_.out (by kernel_rfl)) (fun _ _ _ h => h) (Or.inl ⟨by rfl, ?_⟩) hHeld ?_ ?_
 rotate_left
 ·rintro w' ⟨s0, s1⟩
  go_simp
  with_reducible rfl
 rotate_left
 ·simp only [Act.put, List.setIfInBounds_toArray, List.set_cons_zero, List.set_cons_succ, i64_w, i32_w]
  rfl
 refine take_ (i := 3) (N := some 9) (v := ?_) (a' := ?_) #[true, true, true, true, false, false, false, true, false, true, false, false, false, false, false] rfl rfl (take_ofW HT_.out HW_.out (by kernel_rfl)) (fun _ _ _ h => h) (Or.inl ⟨by rfl, ?_⟩) hHeld ?_ ?_
 rotate_left
 ·rintro w' ⟨s0, s1⟩
  go_simp
  with_reducible rfl
 rotate_left
 ·simp only [Act.put, List.setIfInBounds_toArray, List.set_cons_zero, List.set_cons_succ, i64_w, i32_w]
  rfl
 refine take_ (i := 8) (N := some 14) (v := ?_) (a' := ?_) #[true, true, true, true, false, false, false, true, true, true, false, false, false, false, false] rfl rfl (take_ofW HT_.out HW_.out (by kernel_rfl)) (fun _ _ _ h => h) (Or.inl ⟨by rfl, ?_⟩) hHeld ?_ ?_
 rotate_left
 ·rintro w' ⟨s0, s1⟩
  go_simp
  with_reducible rfl
 rotate_left
 ·simp only [Act.put, List.setIfInBounds_toArray, List.set_cons_zero, List.set_cons_succ, i64_w, i32_w]
  rfl
 refine take_ (i := 10) (N := some 16) (v := ?_) (a' := ?_) #[true, true, true, true, false, false, false, true, true, true, true, false, false, false, false] rfl rfl (take_ofW HT_.out HW_.out (by kernel_rfl)) (fun _ _ _ h => h) (Or.inl ⟨by rfl, ?_⟩) hHeld ?_ ?_
 rotate_left
 ·rintro w' ⟨s0, s1⟩
  go_simp
  with_reducible rfl
 rotate_left
 ·simp only [Act.put, List.setIfInBounds_toArray, List.set_cons_zero, List.set_cons_succ, i64_w, i32_w]
  rfl
 refine oN 4 10 #[true, true, true, true, true, false, false, true, true, true, true, false, false, false, false] HT_ (fun K hK => ?_)
 refine gS Try.func105 #[.int .i64 t132, .int .i64 t132, .int .i64 2] ?_
 with_reducible refine (spec_l12Row.calls k t132 t132 2 t135 t136 _ A3.out).mono ?_
 rintro e w13 ⟨rfl, hb⟩
 refine ⟨_, rfl, ?_⟩
 replace BK131 := bb (bk BK131) hb
 replace BK134 := bb (bk BK134) hb
 replace HB := hbb (hzs HB) hb
 clear hb
 refine hK.out _ _ ⟨cw0 BK134, cw1 BK134⟩ (fun hHeld => ?_)
 clear hK K
 refine nP ?_
 refine pU 5 11 #[true, true, true, true, true, true, false, true, true, true, true, false, false, false, false] HT_ ?_
 refine pU 6 12 #[true, true, true, true, true, true, true, true, true, true, true, false, false, false, false] HT_ ?_
 refine oN 11 17 #[true, true, true, true, true, true, true, true, true, true, true, true, false, false, false] HT_ (fun K hK => ?_)
 refine gS Try.func105 #[.int .i64 t133, .int .i64 t133, .int .i64 2] ?_
 with_reducible refine (spec_l12Row.calls k t133 t133 2 t137 t138 _ A5.out).mono ?_
 rintro e w14 ⟨rfl, hb⟩
 refine ⟨_, rfl, ?_⟩
 replace BK131 := bb (bk BK131) hb
 replace BK134 := bb (bk BK134) hb
 replace HB := hbb (hzs HB) hb
 clear hb
 refine hK.out _ _ ⟨cw0 BK134, cw1 BK134⟩ (fun hHeld => ?_)
 clear hK K
 refine nP ?_
 refine pU 12 18 #[true, true, true, true, true, true, true, true, true, true, true, true, true, false, false] HT_ ?_
 refine pU 13 19 #[true, true, true, true, true, true, true, true, true, true, true, true, true, true, false] HT_ ?_
 refine one_ (i := 14) (N := none) #[true, true, true, true, true, true, true, true, true, true, true, true, true, true, true] rfl rfl (one_of HT_.out (by kernel_rfl)) (by decide) (fun K hK => ?_)
 have hs15 : w14.cell? ⟨gb131, 0, none⟩ = some (.int .i64 0) := (blk_cell BK131.out 0).trans rfl
 have hfs15 := blk_frozen BK131.out 0
 have hns15_1 := NB134_131.out
 have hms15_1 := NB131_134.out
 have hs16 : w14.cell? ⟨gb131, 1, none⟩ = some (.int .i64 0) := (blk_cell BK131.out 1).trans rfl
 have hfs16 := blk_frozen BK131.out 1
 have hns16_1 := NB134_131.out
 have hms16_1 := NB131_134.out
 refine skip_ (w1 := ?_) (by rfl) rfl ?_ ?_
 rotate_left
 ·go_simp
  rfl
 refine hK.out _ _ ⟨((cell_far (p := ⟨gb131, _, none⟩) NB134_131.out _).trans (((cell_far (p := ⟨gb131, _, none⟩) NB134_131.out _).trans (hHeld.1)))), ((cell_far (p := ⟨gb131, _, none⟩) NB134_131.out _).trans (((cell_far (p := ⟨gb131, _, none⟩) NB134_131.out _).trans (hHeld.2))))⟩ (fun hHeld => ?_)
 clear hK K
 refine done_ (done_of HT_.out (by kernel_rfl)) ?_
 try go_wp2
 refine bodyPost_ret (results_cell_row rfl _ _ gb131 42 #[.int .i64 ji4, .int .i64 t138] (0, 0) _ rfl (bkp BK131) Try.underlying42 rfl (by kernel_rfl)) rfl ?_
 exact ⟨by first | rfl | (simp [errW_none, errW_some] <;> rfl) | (simp only [← hji4]; first | rfl | (simp [errW_none, errW_some] <;> rfl)) | (simp [*, errW_none, errW_some] <;> rfl), hzs HB⟩


/-! ### spec_l12Quart: function 86 -/
def spec_l12Quart.f (k : Nat) (a0 : Int) : Option (Int × Int) := if a0 = 0 then (some (0, 0)) else (if a0 = 21600000 then (some (500000000, 500000000)) else (if a0 = 64800000 then (some (1000000000, 1000000000)) else (if a0 ≤ 32400000 then ((spec_l12Small.f k a0).bind fun bt148 => (some (bt148.1, bt148.2))) else ((spec_l12Near.f k (wrap64 (64800000 - a0))).bind fun bt150 => (some (bt150.1, bt150.2))))))
set_option maxHeartbeats 8000000 in
set_option maxRecDepth 100000 in
theorem spec_l12Quart.calls (k : Nat) (a0 : Int) (r1 : Int) (r2 : Int) (w : World) (h : spec_l12Quart.f k a0 = some (r1, r2)) :
  Calls Try.prog 86 #[.int .i64 a0] w fun e w' => e = .returned (.agg #[.int .i64 r1, .int .i64 r2]) ∧ Below w.heap.size w w' := by
 have hu42 := Try.underlying42
 have HB := Aside0.mk (Below.refl w.heap.size w)
 have H : (if a0 = 0 then (some (0, 0)) else (if a0 = 21600000 then (some (500000000, 500000000)) else (if a0 = 64800000 then (some (1000000000, 1000000000)) else (if a0 ≤ 32400000 then ((spec_l12Small.f k a0).bind fun bt148 => (some (bt148.1, bt148.2))) else ((spec_l12Near.f k (wrap64 (64800000 - a0))).bind fun bt150 => (some (bt150.1, bt150.2))))))) = some (r1, r2) := h
 clear h
 by_cases c2 : a0 = 0
 ·rw [if_pos c2] at H
  have c2b0 : (a0 == 0) = true := beq_iff_eq.mpr c2
  have c2b1 : (a0 != 0) = false := bne_eq_false_iff_eq.mpr c2
  clear c2
  simp only [Option.some.injEq, Prod.mk.injEq] at H
  obtain ⟨rfl, rfl⟩ := H
  go_enter Try.func86, Try.ntmps86
  go_wp2_with (first | ((with_reducible refine gate_dst (N := 2) rfl ?_); refine bE 2 #[.int .i64 0, .int .i64 0] 42 ?_; intro gb147 hg w3 hbox hb; have BK147 := Aside0.mk (hbox); have GE147 := gw hg (hz0 HB); have GW147 := GE147; replace HB := hbb (hz0 HB) hb; clear hb hbox hg; obtain ⟨hcz4_0, hcz4_1, hfz4_0, hfz4_1⟩ := cz2 BK147))
  refine bodyPost_ret (results_cell_row rfl _ _ gb147 42 #[.int .i64 0, .int .i64 0] (0, 0) _ rfl (bkp BK147) Try.underlying42 rfl (by kernel_rfl)) rfl ?_
  exact ⟨by first | rfl | (simp [errW_none, errW_some] <;> rfl) | (simp [*, errW_none, errW_some] <;> rfl), hzs HB⟩
 ·rw [if_neg c2] at H
  have c2b0 : (a0 == 0) = false := beq_eq_false_iff_ne.mpr c2
  have c2b1 : (a0 != 0) = true := bne_iff_ne.mpr c2
  by_cases c5 : a0 = 21600000
  ·rw [if_pos c5] at H
   have c5b0 : (a0 == 21600000) = true := beq_iff_eq.mpr c5
   have c5b1 : (a0 != 21600000) = false := bne_eq_false_iff_eq.mpr c5
   clear c5
   simp only [Option.some.injEq, Prod.mk.injEq] at H
   obtain ⟨rfl, rfl⟩ := H
   go_enter Try.func86, Try.ntmps86
   go_wp2_with (first | ((with_reducible refine gate_dst (N := 2) rfl ?_); refine bE 2 #[.int .i64 0, .int .i64 0] 42 ?_; intro gb147 hg w6 hbox hb; have BK147 := Aside0.mk (hbox); have GE147 := gw hg (hz0 HB); have GW147 := GE147; replace HB := hbb (hz0 HB) hb; clear hb hbox hg; obtain ⟨hcz7_0, hcz7_1, hfz7_0, hfz7_1⟩ := cz2 BK147))
   refine bodyPost_ret (results_cell_row rfl _ _ gb147 42 #[.int .i64 500000000, .int .i64 500000000] (0, 0) _ rfl (bkp BK147) Try.underlying42 rfl (by kernel_rfl)) rfl ?_
   exact ⟨by first | rfl | (simp [errW_none, errW_some] <;> rfl) | (simp [*, errW_none, errW_some] <;> rfl), hzs HB⟩
  ·rw [if_neg c5] at H
   have c5b0 : (a0 == 21600000) = false := beq_eq_false_iff_ne.mpr c5
   have c5b1 : (a0 != 21600000) = true := bne_iff_ne.mpr c5
   by_cases c8 : a0 = 64800000
   ·rw [if_pos c8] at H
    have c8b0 : (a0 == 64800000) = true := beq_iff_eq.mpr c8
    have c8b1 : (a0 != 64800000) = false := bne_eq_false_iff_eq.mpr c8
    clear c8
    simp only [Option.some.injEq, Prod.mk.injEq] at H
    obtain ⟨rfl, rfl⟩ := H
    go_enter Try.func86, Try.ntmps86
    go_wp2_with (first | ((with_reducible refine gate_dst (N := 2) rfl ?_); refine bE 2 #[.int .i64 0, .int .i64 0] 42 ?_; intro gb147 hg w9 hbox hb; have BK147 := Aside0.mk (hbox); have GE147 := gw hg (hz0 HB); have GW147 := GE147; replace HB := hbb (hz0 HB) hb; clear hb hbox hg; obtain ⟨hcz10_0, hcz10_1, hfz10_0, hfz10_1⟩ := cz2 BK147))
    refine bodyPost_ret (results_cell_row rfl _ _ gb147 42 #[.int .i64 1000000000, .int .i64 1000000000] (0, 0) _ rfl (bkp BK147) Try.underlying42 rfl (by kernel_rfl)) rfl ?_
    exact ⟨by first | rfl | (simp [errW_none, errW_some] <;> rfl) | (simp [*, errW_none, errW_some] <;> rfl), hzs HB⟩
   ·rw [if_neg c8] at H
    have c8b0 : (a0 == 64800000) = false := beq_eq_false_iff_ne.mpr c8
    have c8b1 : (a0 != 64800000) = true := bne_iff_ne.mpr c8
    by_cases c11 : a0 ≤ 32400000
    ·rw [if_pos c11] at H
     have c11b0 : decide (a0 ≤ 32400000) = true := decide_eq_true c11
     clear c11
     replace H := Option.bind_eq_some_iff.mp H
     obtain ⟨⟨t148, t149⟩, A120, H⟩ := H
     try dsimp only at H
     have A12 := Aside0.mk A120
     clear A120
     simp only [Option.some.injEq, Prod.mk.injEq] at H
     obtain ⟨rfl, rfl⟩ := H
     go_enter Try.func86, Try.ntmps86
     go_wp2_with (first | ((with_reducible refine gate_dst (N := 2) rfl ?_); refine bE 2 #[.int .i64 0, .int .i64 0] 42 ?_; intro gb147 hg w13 hbox hb; have BK147 := Aside0.mk (hbox); have GE147 := gw hg (hz0 HB); have GW147 := GE147; replace HB := hbb (hz0 HB) hb; clear hb hbox hg) | ((with_reducible refine gate_callee (f := 100) rfl ?_); refine gL 16 Try.func100 #[.int .i64 a0] ?_; (with_reducible refine (spec_l12Small.calls k a0 t148 t149 _ A12.out).mono ?_); rintro e w14 ⟨rfl, hb⟩; refine ⟨_, rfl, ?_⟩; replace BK147 := bb (bk BK147) hb; replace HB := hbb (hzs HB) hb; clear hb; obtain ⟨hcz15_0, hcz15_1, hfz15_0, hfz15_1⟩ := cz2 BK147))
     refine bodyPost_ret (results_cell_row rfl _ _ gb147 42 #[.int .i64 t148, .int .i64 t149] (0, 0) _ rfl (bkp BK147) Try.underlying42 rfl (by kernel_rfl)) rfl ?_
     exact ⟨by first | rfl | (simp [errW_none, errW_some] <;> rfl) | (simp [*, errW_none, errW_some] <;> rfl), hzs HB⟩
    ·rw [if_neg c11] at H
     have c11b0 : decide (a0 ≤ 32400000) = false := decide_eq_false c11
     clear c11
     replace H := Option.bind_eq_some_iff.mp H
     obtain ⟨⟨t150, t151⟩, A160, H⟩ := H
     try dsimp only at H
     have A16 := Aside0.mk A160
     clear A160
     simp only [Option.some.injEq, Prod.mk.injEq] at H
     obtain ⟨rfl, rfl⟩ := H
     go_enter Try.func86, Try.ntmps86
     go_wp2_with (first | ((with_reducible refine gate_dst (N := 2) rfl ?_); refine bE 2 #[.int .i64 0, .int .i64 0] 42 ?_; intro gb147 hg w17 hbox hb; have BK147 := Aside0.mk (hbox); have GE147 := gw hg (hz0 HB); have GW147 := GE147; replace HB := hbb (hz0 HB) hb; clear hb hbox hg) | ((with_reducible refine gate_callee (f := 101) rfl ?_); refine gL 19 Try.func101 #[.int .i64 (wrap64 (64800000 - a0))] ?_; (with_reducible refine (spec_l12Near.calls k (wrap64 (64800000 - a0)) t150 t151 _ A16.out).mono ?_); rintro e w18 ⟨rfl, hb⟩; refine ⟨_, rfl, ?_⟩; replace BK147 := bb (bk BK147) hb; replace HB := hbb (hzs HB) hb; clear hb; obtain ⟨hcz19_0, hcz19_1, hfz19_0, hfz19_1⟩ := cz2 BK147))
     refine bodyPost_ret (results_cell_row rfl _ _ gb147 42 #[.int .i64 t150, .int .i64 t151] (0, 0) _ rfl (bkp BK147) Try.underlying42 rfl (by kernel_rfl)) rfl ?_
     exact ⟨by first | rfl | (simp [errW_none, errW_some] <;> rfl) | (simp [*, errW_none, errW_some] <;> rfl), hzs HB⟩


/-! ### spec_l12Sine: function 58 -/
def spec_l12Sine.f : Nat → Int → Option (Int × Int)
 | 0, _ => none
 | k + 1, a0 => (spec_l1Down.f a0 259200000).bind fun t153 => (if (wrap64 (a0 - (wrap64 (t153 * 259200000)))) ≥ 129600000 then ((spec_l12Sine.f k (wrap64 ((wrap64 (a0 - (wrap64 (t153 * 259200000)))) - 129600000))).bind fun bt154 => ((spec_SpanNeg.f bt154.1 bt154.2).bind fun bt156 => (some (bt156.1, bt156.2)))) else (if (wrap64 (a0 - (wrap64 (t153 * 259200000)))) > 64800000 then ((spec_l12Quart.f k (wrap64 (129600000 - (wrap64 (a0 - (wrap64 (t153 * 259200000))))))).bind fun bt158 => (some (bt158.1, bt158.2))) else ((spec_l12Quart.f k (wrap64 (a0 - (wrap64 (t153 * 259200000))))).bind fun bt160 => (some (bt160.1, bt160.2)))))
set_option maxHeartbeats 8000000 in
set_option maxRecDepth 100000 in
theorem spec_l12Sine.calls (k : Nat) : ∀ (a0 : Int) (r1 : Int) (r2 : Int) (w : World) (h : spec_l12Sine.f k a0 = some (r1, r2)),
  Calls Try.prog 58 #[.int .i64 a0] w fun e w' => e = .returned (.agg #[.int .i64 r1, .int .i64 r2]) ∧ Below w.heap.size w w' := by
 induction k using Nat.strongRecOn with
 | _ k ih =>
 intro a0 r1 r2 w h
 cases k with
 | zero => exact absurd h (by simp [spec_l12Sine.f])
 | succ k =>
 simp only [spec_l12Sine.f] at h
 have hu42 := Try.underlying42
 have HB := Aside0.mk (Below.refl w.heap.size w)
 have H : ((spec_l1Down.f a0 259200000).bind fun t153 => (if (wrap64 (a0 - (wrap64 (t153 * 259200000)))) ≥ 129600000 then ((spec_l12Sine.f k (wrap64 ((wrap64 (a0 - (wrap64 (t153 * 259200000)))) - 129600000))).bind fun bt154 => ((spec_SpanNeg.f bt154.1 bt154.2).bind fun bt156 => (some (bt156.1, bt156.2)))) else (if (wrap64 (a0 - (wrap64 (t153 * 259200000)))) > 64800000 then ((spec_l12Quart.f k (wrap64 (129600000 - (wrap64 (a0 - (wrap64 (t153 * 259200000))))))).bind fun bt158 => (some (bt158.1, bt158.2))) else ((spec_l12Quart.f k (wrap64 (a0 - (wrap64 (t153 * 259200000))))).bind fun bt160 => (some (bt160.1, bt160.2)))))) = some (r1, r2) := h
 clear h
 replace H := Option.bind_eq_some_iff.mp H
 obtain ⟨t153, A20, H⟩ := H
 try dsimp only at H
 have A2 := Aside0.mk A20
 clear A20
 by_cases c3 : (wrap64 (a0 - (wrap64 (t153 * 259200000)))) ≥ 129600000
 ·rw [if_pos c3] at H
  have c3b0 : decide (129600000 ≤ (wrap64 (a0 - (wrap64 (t153 * 259200000))))) = true := decide_eq_true c3
  clear c3
  replace H := Option.bind_eq_some_iff.mp H
  obtain ⟨⟨t154, t155⟩, A40, H⟩ := H
  try dsimp only at H
  have A4 := Aside0.mk A40
  clear A40
  replace H := Option.bind_eq_some_iff.mp H
  obtain ⟨⟨t156, t157⟩, A50, H⟩ := H
  try dsimp only at H
  have A5 := Aside0.mk A50
  clear A50
  simp only [Option.some.injEq, Prod.mk.injEq] at H
  obtain ⟨rfl, rfl⟩ := H
  go_enter Try.func58, Try.ntmps58
  go_wp2_with (first | ((with_reducible refine gate_dst (N := 2) rfl ?_); refine bE 2 #[.int .i64 0, .int .i64 0] 42 ?_; intro gb152 hg w6 hbox hb; have BK152 := Aside0.mk (hbox); have GE152 := gw hg (hz0 HB); have GW152 := GE152; replace HB := hbb (hz0 HB) hb; clear hb hbox hg) | ((with_reducible refine gate_callee (f := 70) rfl ?_); refine gL 7 Try.func70 #[.int .i64 a0, .int .i64 259200000] ?_; (with_reducible refine (spec_l1Down.calls a0 259200000 t153 _ A2.out).mono ?_); rintro e w' ⟨rfl, ⟨nd, rfl⟩⟩; refine ⟨_, rfl, ?_⟩; (try (rw [drewN_self w6]; generalize hq_ : World.drewN w6 _ = w6; have n0_ : Aside0 (w6.heap[gb152]? = some (.cells #[.int .i64 0, .int .i64 0] 42 (0, 0))) := ⟨by rw [← hq_]; exact (bk BK152)⟩; have n1_ : Aside0 (Below w.heap.size w w6) := ⟨by rw [← hq_]; exact (hzs HB)⟩; clear BK152 HB hq_; have BK152 := n0_; have HB := n1_; clear n0_ n1_))) | ((with_reducible refine gate_callee (f := 58) rfl ?_); refine gL 15 Try.func58 #[.int .i64 (wrap64 ((wrap64 (a0 - (wrap64 (t153 * 259200000)))) - 129600000))] ?_; (with_reducible refine (ih k (by omega) (wrap64 ((wrap64 (a0 - (wrap64 (t153 * 259200000)))) - 129600000)) t154 t155 _ A4.out).mono ?_); rintro e w7 ⟨rfl, hb⟩; refine ⟨_, rfl, ?_⟩; replace BK152 := bb (bk BK152) hb; replace HB := hbb (hzs HB) hb; clear hb) | ((with_reducible refine gate_callee (f := 85) rfl ?_); refine gL 16 Try.func85 #[.agg #[.int .i64 t154, .int .i64 t155]] ?_; (with_reducible refine (spec_SpanNeg.calls t154 t155 t156 t157 _ A5.out).mono ?_); rintro e w8 ⟨rfl, hb⟩; refine ⟨_, rfl, ?_⟩; replace BK152 := bb (bk BK152) hb; replace HB := hbb (hzs HB) hb; clear hb; obtain ⟨hcz9_0, hcz9_1, hfz9_0, hfz9_1⟩ := cz2 BK152))
  refine bodyPost_ret (results_cell_row rfl _ _ gb152 42 #[.int .i64 t156, .int .i64 t157] (0, 0) _ rfl (bkp BK152) Try.underlying42 rfl (by kernel_rfl)) rfl ?_
  exact ⟨by first | rfl | (simp [errW_none, errW_some] <;> rfl) | (simp [*, errW_none, errW_some] <;> rfl), hzs HB⟩
 ·rw [if_neg c3] at H
  have c3b0 : decide (129600000 ≤ (wrap64 (a0 - (wrap64 (t153 * 259200000))))) = false := decide_eq_false c3
  clear c3
  by_cases c10 : (wrap64 (a0 - (wrap64 (t153 * 259200000)))) > 64800000
  ·rw [if_pos c10] at H
   have c10b0 : decide (64800000 < (wrap64 (a0 - (wrap64 (t153 * 259200000))))) = true := decide_eq_true c10
   clear c10
   replace H := Option.bind_eq_some_iff.mp H
   obtain ⟨⟨t158, t159⟩, A110, H⟩ := H
   try dsimp only at H
   have A11 := Aside0.mk A110
   clear A110
   simp only [Option.some.injEq, Prod.mk.injEq] at H
   obtain ⟨rfl, rfl⟩ := H
   go_enter Try.func58, Try.ntmps58
   go_wp2_with (first | ((with_reducible refine gate_dst (N := 2) rfl ?_); refine bE 2 #[.int .i64 0, .int .i64 0] 42 ?_; intro gb152 hg w12 hbox hb; have BK152 := Aside0.mk (hbox); have GE152 := gw hg (hz0 HB); have GW152 := GE152; replace HB := hbb (hz0 HB) hb; clear hb hbox hg) | ((with_reducible refine gate_callee (f := 70) rfl ?_); refine gL 7 Try.func70 #[.int .i64 a0, .int .i64 259200000] ?_; (with_reducible refine (spec_l1Down.calls a0 259200000 t153 _ A2.out).mono ?_); rintro e w' ⟨rfl, ⟨nd, rfl⟩⟩; refine ⟨_, rfl, ?_⟩; (try (rw [drewN_self w12]; generalize hq_ : World.drewN w12 _ = w12; have n0_ : Aside0 (w12.heap[gb152]? = some (.cells #[.int .i64 0, .int .i64 0] 42 (0, 0))) := ⟨by rw [← hq_]; exact (bk BK152)⟩; have n1_ : Aside0 (Below w.heap.size w w12) := ⟨by rw [← hq_]; exact (hzs HB)⟩; clear BK152 HB hq_; have BK152 := n0_; have HB := n1_; clear n0_ n1_))) | ((with_reducible refine gate_callee (f := 86) rfl ?_); refine gL 21 Try.func86 #[.int .i64 (wrap64 (129600000 - (wrap64 (a0 - (wrap64 (t153 * 259200000))))))] ?_; (with_reducible refine (spec_l12Quart.calls k (wrap64 (129600000 - (wrap64 (a0 - (wrap64 (t153 * 259200000)))))) t158 t159 _ A11.out).mono ?_); rintro e w13 ⟨rfl, hb⟩; refine ⟨_, rfl, ?_⟩; replace BK152 := bb (bk BK152) hb; replace HB := hbb (hzs HB) hb; clear hb; obtain ⟨hcz14_0, hcz14_1, hfz14_0, hfz14_1⟩ := cz2 BK152))
   refine bodyPost_ret (results_cell_row rfl _ _ gb152 42 #[.int .i64 t158, .int .i64 t159] (0, 0) _ rfl (bkp BK152) Try.underlying42 rfl (by kernel_rfl)) rfl ?_
   exact ⟨by first | rfl | (simp [errW_none, errW_some] <;> rfl) | (simp [*, errW_none, errW_some] <;> rfl), hzs HB⟩
  ·rw [if_neg c10] at H
   have c10b0 : decide (64800000 < (wrap64 (a0 - (wrap64 (t153 * 259200000))))) = false := decide_eq_false c10
   clear c10
   replace H := Option.bind_eq_some_iff.mp H
   obtain ⟨⟨t160, t161⟩, A150, H⟩ := H
   try dsimp only at H
   have A15 := Aside0.mk A150
   clear A150
   simp only [Option.some.injEq, Prod.mk.injEq] at H
   obtain ⟨rfl, rfl⟩ := H
   go_enter Try.func58, Try.ntmps58
   go_wp2_with (first | ((with_reducible refine gate_dst (N := 2) rfl ?_); refine bE 2 #[.int .i64 0, .int .i64 0] 42 ?_; intro gb152 hg w16 hbox hb; have BK152 := Aside0.mk (hbox); have GE152 := gw hg (hz0 HB); have GW152 := GE152; replace HB := hbb (hz0 HB) hb; clear hb hbox hg) | ((with_reducible refine gate_callee (f := 70) rfl ?_); refine gL 7 Try.func70 #[.int .i64 a0, .int .i64 259200000] ?_; (with_reducible refine (spec_l1Down.calls a0 259200000 t153 _ A2.out).mono ?_); rintro e w' ⟨rfl, ⟨nd, rfl⟩⟩; refine ⟨_, rfl, ?_⟩; (try (rw [drewN_self w16]; generalize hq_ : World.drewN w16 _ = w16; have n0_ : Aside0 (w16.heap[gb152]? = some (.cells #[.int .i64 0, .int .i64 0] 42 (0, 0))) := ⟨by rw [← hq_]; exact (bk BK152)⟩; have n1_ : Aside0 (Below w.heap.size w w16) := ⟨by rw [← hq_]; exact (hzs HB)⟩; clear BK152 HB hq_; have BK152 := n0_; have HB := n1_; clear n0_ n1_))) | ((with_reducible refine gate_callee (f := 86) rfl ?_); refine gL 23 Try.func86 #[.int .i64 (wrap64 (a0 - (wrap64 (t153 * 259200000))))] ?_; (with_reducible refine (spec_l12Quart.calls k (wrap64 (a0 - (wrap64 (t153 * 259200000)))) t160 t161 _ A15.out).mono ?_); rintro e w17 ⟨rfl, hb⟩; refine ⟨_, rfl, ?_⟩; replace BK152 := bb (bk BK152) hb; replace HB := hbb (hzs HB) hb; clear hb; obtain ⟨hcz18_0, hcz18_1, hfz18_0, hfz18_1⟩ := cz2 BK152))
   refine bodyPost_ret (results_cell_row rfl _ _ gb152 42 #[.int .i64 t160, .int .i64 t161] (0, 0) _ rfl (bkp BK152) Try.underlying42 rfl (by kernel_rfl)) rfl ?_
   exact ⟨by first | rfl | (simp [errW_none, errW_some] <;> rfl) | (simp [*, errW_none, errW_some] <;> rfl), hzs HB⟩


end Go.Proofs.Ytmcippkpgmehdaa.M
