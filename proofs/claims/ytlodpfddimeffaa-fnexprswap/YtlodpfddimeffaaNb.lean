import Derived.Test.YtlodpfddimeffaaM0
import Derived.Test.YtlodpfddimeffaaNa
namespace Go.Proofs.Ytlodpfddimeffaa.M
open Go.RowKit Go.Proofs.YtlodpfddimeffaaW.PrintWords Go.Proofs.YtlodpfddimeffaaW.PrintLast Go.Proofs.YtlodpfddimeffaaW.PrintMore
attribute [local go_sem] max2_int min2_int max_two min_two max_three min_three max_four min_four
attribute [local go_sem high] eqA31
attribute [local go_sem] fld31_0 fld31_1 fld25_0 fld25_1 fld25_2 fld25_3
set_option linter.unusedVariables false
set_option linter.unusedSimpArgs false

/-! ### spec_l12Row: function 108 -/
mutual
def spec_l12Row.l0 : Nat → Int → Int → Int → Int → Int → Int → Bool → Option (Int × Int)
 | 0, _, _, _, _, _, _, _ => none
 | k + 1, x1, x2, x7, x8, x9, x10, x11 => if x10 > 0 then (spec_l12Row.j1 k x1 x2 x7 x8 x9 x10 x11 (decide (x2 < 40))) else (spec_l12Row.j1 k x1 x2 x7 x8 x9 x10 x11 false)
def spec_l12Row.j1 : Nat → Int → Int → Int → Int → Int → Int → Bool → Bool → Option (Int × Int)
 | 0, _, _, _, _, _, _, _, _ => none
 | k + 1, x1, x2, x7, x8, x9, x10, x11, x21 => if x21 = true then ((spec_l12Times.f x1 x1 false).bind fun t153 => ((spec_l12Times.f x9 t153 false).bind fun t154 => ((spec_l12Over.f t154 (wrap64 (x2 * (wrap64 (x2 + 1)))) false).bind fun t155 => ((spec_l12Times.f x1 x1 true).bind fun t156 => ((spec_l12Times.f x10 t156 true).bind fun t157 => ((spec_l12Over.f t157 (wrap64 (x2 * (wrap64 (x2 + 1)))) true).bind fun t158 => (if t158 = 1 then (spec_l12Row.j2 k x1 x2 x7 x8 t155 t158 x11 (t155 == 0)) else (spec_l12Row.j2 k x1 x2 x7 x8 t155 t158 x11 false)))))))) else (some (x7, x8))
def spec_l12Row.j2 : Nat → Int → Int → Int → Int → Int → Int → Bool → Bool → Option (Int × Int)
 | 0, _, _, _, _, _, _, _, _ => none
 | k + 1, x1, x2, x7, x8, x9, x10, x11, x47 => if x47 = true then (some (wrap64 (x7 - 1), wrap64 (x8 + 1))) else (if x11 = true then (spec_l12Row.l0 k x1 (wrap64 (x2 + 2)) (wrap64 (x7 - x10)) (wrap64 (x8 - x9)) x9 x10 (!x11)) else (spec_l12Row.l0 k x1 (wrap64 (x2 + 2)) (wrap64 (x7 + x9)) (wrap64 (x8 + x10)) x9 x10 (!x11)))
end
def spec_l12Row.f (k : Nat) (a0 : Int) (a1 : Int) (a2 : Int) : Option (Int × Int) := spec_l12Row.l0 k a1 a2 a0 a0 a0 a0 true
set_option maxHeartbeats 8000000 in
set_option maxRecDepth 100000 in
theorem spec_l12Row.calls (k : Nat) (a0 : Int) (a1 : Int) (a2 : Int) (r1 : Int) (r2 : Int) (w : World) (h : spec_l12Row.f k a0 a1 a2 = some (r1, r2)) :
  Calls Try.prog 108 #[.int .i64 a0, .int .i64 a1, .int .i64 a2] w fun e w' => e = .returned (.agg #[.int .i64 r1, .int .i64 r2]) ∧ Below w.heap.size w w' := by
 have hu31 := Try.underlying31
 have HB := Aside0.mk (Below.refl w.heap.size w)
 have H := h
 clear h
 unfold spec_l12Row.f at H
 have H' := Aside0.mk H
 clear H
 go_enter Try.func108, Try.ntmps108
 go_wp2_with (first | ((with_reducible refine gate_dst (N := 6) rfl ?_); refine bE 6 #[.int .i64 0, .int .i64 0] 31 ?_; intro gb152 hg w4 hbox hb; have BK152 := Aside0.mk (hbox); have GE152 := gw hg (hz0 HB); replace HB := hbb (hz0 HB) hb; clear hb hbox hg))
 go_loopg [2, 7, 8, 9, 10, 11] k (fun kq v2 v7 v8 v9 v10 v11 w' => ∃ (x2_1 : Int) (x7_1 : Int) (x8_1 : Int) (x9_1 : Int) (x10_1 : Int) (x11_1 : Bool) (x153000_1 : Int) (x153001_1 : Int), v2 = .int .i64 x2_1 ∧ v7 = .int .i64 x7_1 ∧ v8 = .int .i64 x8_1 ∧ v9 = .int .i64 x9_1 ∧ v10 = .int .i64 x10_1 ∧ v11 = .bool x11_1 ∧ Aside0 (spec_l12Row.l0 kq a1 x2_1 x7_1 x8_1 x9_1 x10_1 x11_1 = some (r1, r2)) ∧ Aside0 (kq ≤ k) ∧ Aside0 (w'.heap[gb152]? = some (.cells #[.int .i64 x153000_1, .int .i64 x153001_1] 31 (0, 0))) ∧ Aside0 (Below w.heap.size w w'))
 case atStart => exact ⟨(a2), (a0), (a0), (a0), (a0), (true), (0), (0), (by first | rfl | (simp; done) | (simp [*]; done)), (by first | rfl | (simp; done) | (simp [*]; done)), (by first | rfl | (simp; done) | (simp [*]; done)), (by first | rfl | (simp; done) | (simp [*]; done)), (by first | rfl | (simp; done) | (simp [*]; done)), (by first | rfl | (simp; done) | (simp [*]; done)), H', ⟨Nat.le_refl _⟩, ⟨bk BK152⟩, ⟨hzs HB⟩⟩
 case round =>
  clear H'
  try clear c1
  try clear p2
  obtain ⟨x2_1, x7_1, x8_1, x9_1, x10_1, x11_1, x153000_1, x153001_1, rfl, rfl, rfl, rfl, rfl, rfl, HA, HK1, BK152, HB⟩ := hrel
  cases gk with
  | zero => exact absurd HA.out (by simp [spec_l12Row.l0])
  | succ k1 =>
   have H := HA.out
   clear HA
   simp only [spec_l12Row.l0] at H
   have HC5 := Aside0.mk H
   clear H
   go_upto_region 6 with (fail)
   go_cut [21] (fun v21 wc => ∃ (kq : Nat) (x21_4 : Bool), v21 = .bool x21_4 ∧ Aside0 (spec_l12Row.j1 kq a1 x2_1 x7_1 x8_1 x9_1 x10_1 x11_1 x21_4 = some (r1, r2)) ∧ Aside0 (kq ≤ k1) ∧ Aside0 (wc.heap[gb152]? = some (.cells #[.int .i64 x153000_1, .int .i64 x153001_1] 31 (0, 0))) ∧ Aside0 (Below w.heap.size w wc))
   case first =>
    have H := HC5.out
    clear HC5
    by_cases c6 : x10_1 > 0
    ·rw [if_pos c6] at H
     have c6b0 : decide (0 < x10_1) = true := decide_eq_true c6
     clear c6
     (first | rw [c6b0] | (simp only [i64_w, i32_w]; rw [c6b0]) | skip)
     have H' := Aside0.mk H
     clear H
     go_wp2
     go_meet
     case rel => exact ⟨_, (decide (x2_1 < 40)), (by first | rfl | (simp; done) | (simp [*]; done)), H', ⟨by have := HK1.out; first | omega | exact Nat.le_refl _⟩, ⟨bk BK152⟩, ⟨hzs HB⟩⟩
    ·rw [if_neg c6] at H
     have c6b0 : decide (0 < x10_1) = false := decide_eq_false c6
     clear c6
     (first | rw [c6b0] | (simp only [i64_w, i32_w]; rw [c6b0]) | skip)
     have H' := Aside0.mk H
     clear H
     go_wp2
     go_meet
     case rel => exact ⟨_, (false), (by first | rfl | (simp; done) | (simp [*]; done)), H', ⟨by have := HK1.out; first | omega | exact Nat.le_refl _⟩, ⟨bk BK152⟩, ⟨hzs HB⟩⟩
   case rest =>
    clear HC5
    try clear c1
    try clear p2
    try clear c6
    try clear c6b0
    try clear p2
    obtain ⟨kq, x21_4, rfl, HA, HJ4, BK152, HB⟩ := hcut
    cases kq with
    | zero => exact absurd HA.out (by simp [spec_l12Row.j1])
    | succ kj4 =>
     have H := HA.out
     clear HA
     simp only [spec_l12Row.j1] at H
     by_cases c7 : x21_4 = true
     ·subst c7
      rw [if_pos rfl] at H
      replace H := Option.bind_eq_some_iff.mp H
      obtain ⟨t153, A80, H⟩ := H
      try dsimp only at H
      have A8 := Aside0.mk A80
      clear A80
      replace H := Option.bind_eq_some_iff.mp H
      obtain ⟨t154, A90, H⟩ := H
      try dsimp only at H
      have A9 := Aside0.mk A90
      clear A90
      replace H := Option.bind_eq_some_iff.mp H
      obtain ⟨t155, A100, H⟩ := H
      try dsimp only at H
      have A10 := Aside0.mk A100
      clear A100
      replace H := Option.bind_eq_some_iff.mp H
      obtain ⟨t156, A110, H⟩ := H
      try dsimp only at H
      have A11 := Aside0.mk A110
      clear A110
      replace H := Option.bind_eq_some_iff.mp H
      obtain ⟨t157, A120, H⟩ := H
      try dsimp only at H
      have A12 := Aside0.mk A120
      clear A120
      replace H := Option.bind_eq_some_iff.mp H
      obtain ⟨t158, A130, H⟩ := H
      try dsimp only at H
      have A13 := Aside0.mk A130
      clear A130
      have HC14 := Aside0.mk H
      clear H
      go_upto_region 9 with (first | ((with_reducible refine gate_callee (f := 110) rfl ?_); refine gL 25 Try.func110 #[.int .i64 a1, .int .i64 a1, .bool false] ?_; (with_reducible refine (spec_l12Times.calls a1 a1 false t153 _ A8.out).mono ?_); rintro e w' ⟨rfl, ⟨nd, rfl⟩⟩; refine ⟨_, rfl, ?_⟩) | ((with_reducible refine gate_callee (f := 110) rfl ?_); refine gL 26 Try.func110 #[.int .i64 x9_1, .int .i64 t153, .bool false] ?_; (with_reducible refine (spec_l12Times.calls x9_1 t153 false t154 _ A9.out).mono ?_); rintro e w' ⟨rfl, ⟨nd, rfl⟩⟩; refine ⟨_, rfl, ?_⟩) | ((with_reducible refine gate_callee (f := 109) rfl ?_); refine gL 31 Try.func109 #[.int .i64 t154, .int .i64 (wrap64 (x2_1 * (wrap64 (x2_1 + 1)))), .bool false] ?_; (with_reducible refine (spec_l12Over.calls t154 (wrap64 (x2_1 * (wrap64 (x2_1 + 1)))) false t155 _ A10.out).mono ?_); rintro e w' ⟨rfl, ⟨nd, rfl⟩⟩; refine ⟨_, rfl, ?_⟩) | ((with_reducible refine gate_callee (f := 110) rfl ?_); refine gL 35 Try.func110 #[.int .i64 a1, .int .i64 a1, .bool true] ?_; (with_reducible refine (spec_l12Times.calls a1 a1 true t156 _ A11.out).mono ?_); rintro e w' ⟨rfl, ⟨nd, rfl⟩⟩; refine ⟨_, rfl, ?_⟩) | ((with_reducible refine gate_callee (f := 110) rfl ?_); refine gL 36 Try.func110 #[.int .i64 x10_1, .int .i64 t156, .bool true] ?_; (with_reducible refine (spec_l12Times.calls x10_1 t156 true t157 _ A12.out).mono ?_); rintro e w' ⟨rfl, ⟨nd, rfl⟩⟩; refine ⟨_, rfl, ?_⟩) | ((with_reducible refine gate_callee (f := 109) rfl ?_); refine gL 41 Try.func109 #[.int .i64 t157, .int .i64 (wrap64 (x2_1 * (wrap64 (x2_1 + 1)))), .bool true] ?_; (with_reducible refine (spec_l12Over.calls t157 (wrap64 (x2_1 * (wrap64 (x2_1 + 1)))) true t158 _ A13.out).mono ?_); rintro e w' ⟨rfl, ⟨nd, rfl⟩⟩; refine ⟨_, rfl, ?_⟩))
      (try simp only [Act.put, List.setIfInBounds_toArray, List.set_cons_zero, List.set_cons_succ])
      go_cut [47] (fun v47 wc => ∃ (kq : Nat) (x47_13 : Bool), v47 = .bool x47_13 ∧ Aside0 (spec_l12Row.j2 kq a1 x2_1 x7_1 x8_1 t155 t158 x11_1 x47_13 = some (r1, r2)) ∧ Aside0 (kq ≤ kj4) ∧ Aside0 (wc.heap[gb152]? = some (.cells #[.int .i64 x153000_1, .int .i64 x153001_1] 31 (0, 0))) ∧ Aside0 (Below w.heap.size w wc))
      case first =>
       have H := HC14.out
       clear HC14
       by_cases c15 : t158 = 1
       ·rw [if_pos c15] at H
        have c15b0 : (t158 == 1) = true := beq_iff_eq.mpr c15
        have c15b1 : (t158 != 1) = false := bne_eq_false_iff_eq.mpr c15
        clear c15
        (first | rw [c15b0] | (simp only [i64_w, i32_w]; rw [c15b0]) | skip)
        have H' := Aside0.mk H
        clear H
        go_wp2
        go_meet
        case rel => exact ⟨_, ((t155 == 0)), (by first | rfl | (simp; done) | (simp [*]; done)), H', ⟨by have := HK1.out; have := HJ4.out; first | omega | exact Nat.le_refl _⟩, ⟨bk BK152⟩, ⟨hzs HB⟩⟩
       ·rw [if_neg c15] at H
        have c15b0 : (t158 == 1) = false := beq_eq_false_iff_ne.mpr c15
        have c15b1 : (t158 != 1) = true := bne_iff_ne.mpr c15
        (first | rw [c15b0] | (simp only [i64_w, i32_w]; rw [c15b0]) | skip)
        have H' := Aside0.mk H
        clear H
        go_wp2
        go_meet
        case rel => exact ⟨_, (false), (by first | rfl | (simp; done) | (simp [*]; done)), H', ⟨by have := HK1.out; have := HJ4.out; first | omega | exact Nat.le_refl _⟩, ⟨bk BK152⟩, ⟨hzs HB⟩⟩
      case rest =>
       clear HC14
       try clear c1
       try clear p2
       try clear c6
       try clear c6b0
       try clear p6
       try clear c7
       try clear c10
       try clear c11
       try clear c15
       try clear c15b0
       try clear c15b1
       try clear p2
       obtain ⟨kq, x47_13, rfl, HA, HJ13, BK152, HB⟩ := hcut
       cases kq with
       | zero => exact absurd HA.out (by simp [spec_l12Row.j2])
       | succ kj13 =>
        have H := HA.out
        clear HA
        simp only [spec_l12Row.j2] at H
        by_cases c16 : x47_13 = true
        ·subst c16
         rw [if_pos rfl] at H
         simp only [Option.some.injEq, Prod.mk.injEq] at H
         obtain ⟨rfl, rfl⟩ := H
         obtain ⟨hcz17_0, hcz17_1, hfz17_0, hfz17_1⟩ := cz2 BK152
         go_wp2
         refine bodyPost_ret (results_cell_row rfl _ _ gb152 31 #[.int .i64 (wrap64 (x7_1 - 1)), .int .i64 (wrap64 (x8_1 + 1))] (0, 0) _ rfl (bkp BK152) Try.underlying31 rfl (by kernel_rfl)) rfl ?_
         exact ⟨by first | rfl | (simp [errW_none, errW_some] <;> rfl) | (simp [*, errW_none, errW_some] <;> rfl), hzs HB⟩
        ·replace c16 := Bool.eq_false_iff.mpr c16
         subst c16
         rw [if_neg (show ¬ (false = true) by decide)] at H
         by_cases c18 : x11_1 = true
         ·subst c18
          rw [if_pos rfl] at H
          have H' := Aside0.mk H
          clear H
          go_wp2
          go_roundg kj13
          case measure => have := HK1.out; have := HJ4.out; have := HJ13.out; omega
          case rel => exact ⟨(wrap64 (x2_1 + 2)), (wrap64 (x7_1 - t158)), (wrap64 (x8_1 - t155)), (t155), (t158), (!true), (x153000_1), (x153001_1), (by first | rfl | (simp; done) | (simp [*]; done)), (by first | rfl | (simp; done) | (simp [*]; done)), (by first | rfl | (simp; done) | (simp [*]; done)), (by first | rfl | (simp; done) | (simp [*]; done)), (by first | rfl | (simp; done) | (simp [*]; done)), (by first | rfl | (simp; done) | (simp [*]; done)), H', ⟨by have := HK1.out; have := HJ4.out; have := HJ13.out; omega⟩, ⟨bk BK152⟩, ⟨hzs HB⟩⟩
         ·replace c18 := Bool.eq_false_iff.mpr c18
          subst c18
          rw [if_neg (show ¬ (false = true) by decide)] at H
          have H' := Aside0.mk H
          clear H
          go_wp2
          go_roundg kj13
          case measure => have := HK1.out; have := HJ4.out; have := HJ13.out; omega
          case rel => exact ⟨(wrap64 (x2_1 + 2)), (wrap64 (x7_1 + t155)), (wrap64 (x8_1 + t158)), (t155), (t158), (!false), (x153000_1), (x153001_1), (by first | rfl | (simp; done) | (simp [*]; done)), (by first | rfl | (simp; done) | (simp [*]; done)), (by first | rfl | (simp; done) | (simp [*]; done)), (by first | rfl | (simp; done) | (simp [*]; done)), (by first | rfl | (simp; done) | (simp [*]; done)), (by first | rfl | (simp; done) | (simp [*]; done)), H', ⟨by have := HK1.out; have := HJ4.out; have := HJ13.out; omega⟩, ⟨bk BK152⟩, ⟨hzs HB⟩⟩
     ·replace c7 := Bool.eq_false_iff.mpr c7
      subst c7
      rw [if_neg (show ¬ (false = true) by decide)] at H
      simp only [Option.some.injEq, Prod.mk.injEq] at H
      obtain ⟨rfl, rfl⟩ := H
      obtain ⟨hcz19_0, hcz19_1, hfz19_0, hfz19_1⟩ := cz2 BK152
      go_wp2
      refine bodyPost_ret (results_cell_row rfl _ _ gb152 31 #[.int .i64 x7_1, .int .i64 x8_1] (0, 0) _ rfl (bkp BK152) Try.underlying31 rfl (by kernel_rfl)) rfl ?_
      exact ⟨by first | rfl | (simp [errW_none, errW_some] <;> rfl) | (simp [*, errW_none, errW_some] <;> rfl), hzs HB⟩


/-! ### spec_l12Near: function 106 -/
def spec_l12Near.f (k : Nat) (a0 : Int) : Option (Int × Int) := (spec_l12Arc.f a0).bind fun bt168 => ((spec_l12Row.f k 1000000000 bt168.2 1).bind fun bt171 => ((spec_l12Row.f k 1000000000 bt168.1 1).bind fun bt173 => (some (bt171.1, mn bt173.2 1000000000))))
def spec_l12Near.T2 : Bool × List (List Nat × List Nat) := (true, [([], []), ([0], [0]), ([1], [1]), ([2], [2]), ([], []), ([4], [4]), ([5, 2], [5]), ([6], [6]), ([7], [7]), ([3, 8], [3, 8]), ([9, 6, 0, 1, 2, 3, 4, 5, 6, 7, 8, 9], [9])])
def spec_l12Near.B2 : List Nat := [0, 1, 3, 7, 0, 16, 55, 119, 247, 511, 1023]
theorem spec_l12Near.tab2 : rtab .any (opsOf Try.f106 2) = spec_l12Near.T2 := by kernel_rfl
theorem spec_l12Near.bits2 : waitsOk spec_l12Near.T2.2 spec_l12Near.B2 = true := by kernel_rfl
set_option maxHeartbeats 8000000 in
set_option maxRecDepth 100000 in
theorem spec_l12Near.calls (k : Nat) (a0 : Int) (r1 : Int) (r2 : Int) (w : World) (h : spec_l12Near.f k a0 = some (r1, r2)) :
  Calls Try.prog 106 #[.int .i64 a0] w fun e w' => e = .returned (.agg #[.int .i64 r1, .int .i64 r2]) ∧ Below w.heap.size w w' := by
 have hu31 := Try.underlying31
 have HB := Aside0.mk (Below.refl w.heap.size w)
 have H := h
 clear h
 unfold spec_l12Near.f at H
 replace H := Option.bind_eq_some_iff.mp H
 obtain ⟨⟨t168, t169⟩, A20, H⟩ := H
 try dsimp only at H
 have A2 := Aside0.mk A20
 clear A20
 replace H := Option.bind_eq_some_iff.mp H
 obtain ⟨⟨t171, t172⟩, A30, H⟩ := H
 try dsimp only at H
 have A3 := Aside0.mk A30
 clear A30
 replace H := Option.bind_eq_some_iff.mp H
 obtain ⟨⟨t173, t174⟩, A40, H⟩ := H
 try dsimp only at H
 have A4 := Aside0.mk A40
 clear A40
 obtain ⟨ji5, hji5⟩ : ∃ j_ : Int, (mn t174 1000000000) = j_ := ⟨_, rfl⟩
 first | rw [hji5] at H | simp only [hji5] at H
 (try rw [hji5] at A2)
 (try rw [hji5] at A3)
 (try rw [hji5] at A4)
 (try (have hji5h : ji5 ≤ 1000000000 := by (rw [← hji5]; unfold mn; (repeat' split) <;> omega)))
 (try (have hji5g : ji5 ≤ 64 := by omega))
 have hji5_ : (if 1000000000 < t174 then 1000000000 else t174) = ji5 := hji5
 simp only [Option.some.injEq, Prod.mk.injEq] at H
 obtain ⟨rfl, rfl⟩ := H
 go_enter Try.func106, Try.ntmps106
 try go_wp2_with (first | ((with_reducible refine gate_dst (N := 2) rfl ?_); refine bE 2 #[.int .i64 0, .int .i64 0] 31 ?_; intro gb167 hg w6 hbox hb; have BK167 := Aside0.mk (hbox); have GE167 := gw hg (hz0 HB); replace HB := hbb (hz0 HB) hb; clear hb hbox hg) | ((with_reducible refine gate_callee (f := 107) rfl ?_); refine gL 5 Try.func107 #[.int .i64 a0] ?_; (with_reducible refine (spec_l12Arc.calls a0 t168 t169 _ A2.out).mono ?_); rintro e w7 ⟨rfl, hb⟩; refine ⟨_, rfl, ?_⟩; replace BK167 := bb (bk BK167) hb; replace HB := hbb (hzs HB) hb; clear hb) | ((with_reducible refine gate_dst (N := 3) rfl ?_); refine bE 3 #[.int .i64 0, .int .i64 0] 31 ?_; intro gb170 hg w8 hbox hb; have BK170 := Aside0.mk (hbox); have GE170 := gw hg (hzs HB); have NB167_170 := nl hg (bk BK167); have NB170_167 := ng hg (bk BK167); replace BK167 := bb (bk BK167) hb; replace HB := hbb (hzs HB) hb; clear hb hbox hg; have hnb9 := NB170_167.out; have hnc9 := NB167_170.out; obtain ⟨hcz10_0, hcz10_1, hfz10_0, hfz10_1⟩ := cz2 BK170))
 have n0_ : Aside0 (((w8.setCell ⟨gb170, 0, none⟩ (.int .i64 t168)).setCell ⟨gb170, 1, none⟩ (.int .i64 t169)).heap[gb167]? = some (.cells #[.int .i64 0, .int .i64 0] 31 (0, 0))) := ⟨bk1 BK167 NB167_170⟩
 have n1_ : Aside0 (((w8.setCell ⟨gb170, 0, none⟩ (.int .i64 t168)).setCell ⟨gb170, 1, none⟩ (.int .i64 t169)).heap[gb170]? = some (.cells #[.int .i64 t168, .int .i64 t169] 31 (0, 0))) := ⟨bkp BK170⟩
 have n2_ : Aside0 (Below w.heap.size w ((w8.setCell ⟨gb170, 0, none⟩ (.int .i64 t168)).setCell ⟨gb170, 1, none⟩ (.int .i64 t169))) := ⟨hzs HB⟩
 (try clear BK167)
 (try clear BK170)
 (try clear HB)
 generalize ((w8.setCell ⟨gb170, 0, none⟩ (.int .i64 t168)).setCell ⟨gb170, 1, none⟩ (.int .i64 t169)) = w11 at n0_ n1_ n2_ ⊢
 have BK167 := n0_
 have BK170 := n1_
 have HB := n2_
 clear n0_ n1_ n2_
 replace BK167 := Aside0.mk (blk_drew BK167.out)
 replace BK170 := Aside0.mk (blk_drew BK170.out)
 replace HB := Aside0.mk (below_drew1 HB.out)
 refine start_ (n := 11) (S := fun w' => w'.cell? ⟨gb170, 0, none⟩ = some (.int .i64 t168) ∧ w'.cell? ⟨gb170, 1, none⟩ = some (.int .i64 t169)) (ds := []) #[false, false, false, false, false, false, false, false, false, false, false] (by kernel_rfl) rfl rfl ⟨cw0 BK170, cw1 BK170⟩ (fun hHeld => ?_); refine with_tabW spec_l12Near.tab2 spec_l12Near.bits2 (fun HT_ HW_ => ?_)
 generalize w11.drew = w12 at BK167 BK170 HB hHeld ⊢
 refine pU 0 6 #[true, false, false, false, false, false, false, false, false, false, false] HT_ ?_
 refine pU 4 10 #[true, false, false, false, true, false, false, false, false, false, false] HT_ ?_
 refine take_ (i := 1) (N := some 7) (v := ?_) (a' := ?_) #[true, true, false, false, true, false, false, false, false, false, false] rfl rfl (take_ofW HT_.out HW_.out (by kernel_rfl)) (fun _ _ _ h => h) (Or.inl ⟨by rfl, ?_⟩) hHeld ?_ ?_
 rotate_left
 ·rintro w' ⟨s0, s1⟩
  go_simp
  with_reducible rfl
 rotate_left
 ·simp only [Act.put, List.setIfInBounds_toArray, List.set_cons_zero, List.set_cons_succ, i64_w, i32_w]
  rfl
 refine take_ (i := 5) (N := some 11) (v := ?_) (a' := ?_) #[true, true, false, false, true, true, false, false, false, false, false] rfl rfl (take_ofW HT_.out HW_.out (by kernel_rfl)) (fun _ _ _ h => h) (Or.inl ⟨by rfl, ?_⟩) hHeld ?_ ?_
 rotate_left
 ·rintro w' ⟨s0, s1⟩
  go_simp
  with_reducible rfl
 rotate_left
 ·simp only [Act.put, List.setIfInBounds_toArray, List.set_cons_zero, List.set_cons_succ, i64_w, i32_w]
  rfl
 refine oN 2 8 #[true, true, true, false, true, true, false, false, false, false, false] HT_ (fun K hK => ?_)
 refine gS Try.func108 #[.int .i64 1000000000, .int .i64 t169, .int .i64 1] ?_
 with_reducible refine (spec_l12Row.calls k 1000000000 t169 1 t171 t172 _ A3.out).mono ?_
 rintro e w13 ⟨rfl, hb⟩
 refine ⟨_, rfl, ?_⟩
 replace BK167 := bb (bk BK167) hb
 replace BK170 := bb (bk BK170) hb
 replace HB := hbb (hzs HB) hb
 clear hb
 refine hK.out _ _ ⟨cw0 BK170, cw1 BK170⟩ (fun hHeld => ?_)
 clear hK K
 refine nP ?_
 refine pU 3 9 #[true, true, true, true, true, true, false, false, false, false, false] HT_ ?_
 refine oN 6 12 #[true, true, true, true, true, true, true, false, false, false, false] HT_ (fun K hK => ?_)
 refine gS Try.func108 #[.int .i64 1000000000, .int .i64 t168, .int .i64 1] ?_
 with_reducible refine (spec_l12Row.calls k 1000000000 t168 1 t173 t174 _ A4.out).mono ?_
 rintro e w14 ⟨rfl, hb⟩
 refine ⟨_, rfl, ?_⟩
 replace BK167 := bb (bk BK167) hb
 replace BK170 := bb (bk BK170) hb
 replace HB := hbb (hzs HB) hb
 clear hb
 refine hK.out _ _ ⟨cw0 BK170, cw1 BK170⟩ (fun hHeld => ?_)
 clear hK K
 refine nP ?_
 refine pU 7 13 #[true, true, true, true, true, true, true, true, false, false, false] HT_ ?_
 refine pU 8 14 #[true, true, true, true, true, true, true, true, true, false, false] HT_ ?_
 refine pU 9 15 #[true, true, true, true, true, true, true, true, true, true, false] HT_ ?_
 refine one_ (i := 10) (N := none) #[true, true, true, true, true, true, true, true, true, true, true] rfl rfl (one_of HT_.out (by kernel_rfl)) (by decide) (fun K hK => ?_)
 have hs15 : w14.cell? ⟨gb167, 0, none⟩ = some (.int .i64 0) := (blk_cell BK167.out 0).trans rfl
 have hfs15 := blk_frozen BK167.out 0
 have hns15_1 := NB170_167.out
 have hms15_1 := NB167_170.out
 have hs16 : w14.cell? ⟨gb167, 1, none⟩ = some (.int .i64 0) := (blk_cell BK167.out 1).trans rfl
 have hfs16 := blk_frozen BK167.out 1
 have hns16_1 := NB170_167.out
 have hms16_1 := NB167_170.out
 refine skip_ (w1 := ?_) (by rfl) rfl ?_ ?_
 rotate_left
 ·go_simp
  rfl
 refine hK.out _ _ ⟨((cell_far (p := ⟨gb167, _, none⟩) NB170_167.out _).trans (((cell_far (p := ⟨gb167, _, none⟩) NB170_167.out _).trans (hHeld.1)))), ((cell_far (p := ⟨gb167, _, none⟩) NB170_167.out _).trans (((cell_far (p := ⟨gb167, _, none⟩) NB170_167.out _).trans (hHeld.2))))⟩ (fun hHeld => ?_)
 clear hK K
 refine done_ (done_of HT_.out (by kernel_rfl)) ?_
 try go_wp2
 refine bodyPost_ret (results_cell_row rfl _ _ gb167 31 #[.int .i64 t171, .int .i64 ji5] (0, 0) _ rfl (bkp BK167) Try.underlying31 rfl (by kernel_rfl)) rfl ?_
 exact ⟨by first | rfl | (simp [errW_none, errW_some] <;> rfl) | (simp only [← hji5]; first | rfl | (simp [errW_none, errW_some] <;> rfl)) | (simp [*, errW_none, errW_some] <;> rfl), hzs HB⟩


/-! ### spec_l12Small: function 105 -/
def spec_l12Small.f (k : Nat) (a0 : Int) : Option (Int × Int) := (spec_l12Arc.f a0).bind fun bt160 => ((spec_l12Row.f k bt160.1 bt160.1 2).bind fun bt163 => ((spec_l12Row.f k bt160.2 bt160.2 2).bind fun bt165 => (some (mx bt163.1 0, bt165.2))))
def spec_l12Small.T2 : Bool × List (List Nat × List Nat) := (true, [([], []), ([0], [0]), ([], []), ([2], [2]), ([1, 3], [1, 3]), ([4], [4]), ([5], [5]), ([], []), ([7], [7]), ([], []), ([9], [9]), ([8, 10, 4], [8, 10]), ([11], [11]), ([6, 12], [6, 12]), ([13, 11, 0, 1, 2, 3, 4, 5, 6, 7, 8, 9, 10, 11, 12, 13], [13])])
def spec_l12Small.B2 : List Nat := [0, 1, 0, 4, 15, 31, 63, 0, 128, 0, 512, 1951, 3999, 8191, 16383]
theorem spec_l12Small.tab2 : rtab .any (opsOf Try.f105 2) = spec_l12Small.T2 := by kernel_rfl
theorem spec_l12Small.bits2 : waitsOk spec_l12Small.T2.2 spec_l12Small.B2 = true := by kernel_rfl
set_option maxHeartbeats 8000000 in
set_option maxRecDepth 100000 in
theorem spec_l12Small.calls (k : Nat) (a0 : Int) (r1 : Int) (r2 : Int) (w : World) (h : spec_l12Small.f k a0 = some (r1, r2)) :
  Calls Try.prog 105 #[.int .i64 a0] w fun e w' => e = .returned (.agg #[.int .i64 r1, .int .i64 r2]) ∧ Below w.heap.size w w' := by
 have hu31 := Try.underlying31
 have HB := Aside0.mk (Below.refl w.heap.size w)
 have H := h
 clear h
 unfold spec_l12Small.f at H
 replace H := Option.bind_eq_some_iff.mp H
 obtain ⟨⟨t160, t161⟩, A20, H⟩ := H
 try dsimp only at H
 have A2 := Aside0.mk A20
 clear A20
 replace H := Option.bind_eq_some_iff.mp H
 obtain ⟨⟨t163, t164⟩, A30, H⟩ := H
 try dsimp only at H
 have A3 := Aside0.mk A30
 clear A30
 obtain ⟨ji4, hji4⟩ : ∃ j_ : Int, (mx t163 0) = j_ := ⟨_, rfl⟩
 first | rw [hji4] at H | simp only [hji4] at H
 (try rw [hji4] at A2)
 (try rw [hji4] at A3)
 (try (have hji4l : 0 ≤ ji4 := by (rw [← hji4]; unfold mx; (repeat' split) <;> omega)))
 (try (have hji4m : 0 ≤ ji4 := by omega))
 have hji4_ : (if t163 < 0 then 0 else t163) = ji4 := hji4
 replace H := Option.bind_eq_some_iff.mp H
 obtain ⟨⟨t165, t166⟩, A50, H⟩ := H
 try dsimp only at H
 have A5 := Aside0.mk A50
 clear A50
 simp only [Option.some.injEq, Prod.mk.injEq] at H
 obtain ⟨rfl, rfl⟩ := H
 go_enter Try.func105, Try.ntmps105
 try go_wp2_with (first | ((with_reducible refine gate_dst (N := 2) rfl ?_); refine bE 2 #[.int .i64 0, .int .i64 0] 31 ?_; intro gb159 hg w6 hbox hb; have BK159 := Aside0.mk (hbox); have GE159 := gw hg (hz0 HB); replace HB := hbb (hz0 HB) hb; clear hb hbox hg) | ((with_reducible refine gate_callee (f := 107) rfl ?_); refine gL 5 Try.func107 #[.int .i64 a0] ?_; (with_reducible refine (spec_l12Arc.calls a0 t160 t161 _ A2.out).mono ?_); rintro e w7 ⟨rfl, hb⟩; refine ⟨_, rfl, ?_⟩; replace BK159 := bb (bk BK159) hb; replace HB := hbb (hzs HB) hb; clear hb) | ((with_reducible refine gate_dst (N := 3) rfl ?_); refine bE 3 #[.int .i64 0, .int .i64 0] 31 ?_; intro gb162 hg w8 hbox hb; have BK162 := Aside0.mk (hbox); have GE162 := gw hg (hzs HB); have NB159_162 := nl hg (bk BK159); have NB162_159 := ng hg (bk BK159); replace BK159 := bb (bk BK159) hb; replace HB := hbb (hzs HB) hb; clear hb hbox hg; have hnb9 := NB162_159.out; have hnc9 := NB159_162.out; obtain ⟨hcz10_0, hcz10_1, hfz10_0, hfz10_1⟩ := cz2 BK162))
 have n0_ : Aside0 (((w8.setCell ⟨gb162, 0, none⟩ (.int .i64 t160)).setCell ⟨gb162, 1, none⟩ (.int .i64 t161)).heap[gb159]? = some (.cells #[.int .i64 0, .int .i64 0] 31 (0, 0))) := ⟨bk1 BK159 NB159_162⟩
 have n1_ : Aside0 (((w8.setCell ⟨gb162, 0, none⟩ (.int .i64 t160)).setCell ⟨gb162, 1, none⟩ (.int .i64 t161)).heap[gb162]? = some (.cells #[.int .i64 t160, .int .i64 t161] 31 (0, 0))) := ⟨bkp BK162⟩
 have n2_ : Aside0 (Below w.heap.size w ((w8.setCell ⟨gb162, 0, none⟩ (.int .i64 t160)).setCell ⟨gb162, 1, none⟩ (.int .i64 t161))) := ⟨hzs HB⟩
 (try clear BK159)
 (try clear BK162)
 (try clear HB)
 generalize ((w8.setCell ⟨gb162, 0, none⟩ (.int .i64 t160)).setCell ⟨gb162, 1, none⟩ (.int .i64 t161)) = w11 at n0_ n1_ n2_ ⊢
 have BK159 := n0_
 have BK162 := n1_
 have HB := n2_
 clear n0_ n1_ n2_
 replace BK159 := Aside0.mk (blk_drew BK159.out)
 replace BK162 := Aside0.mk (blk_drew BK162.out)
 replace HB := Aside0.mk (below_drew1 HB.out)
 refine start_ (n := 15) (S := fun w' => w'.cell? ⟨gb162, 0, none⟩ = some (.int .i64 t160) ∧ w'.cell? ⟨gb162, 1, none⟩ = some (.int .i64 t161)) (ds := []) #[false, false, false, false, false, false, false, false, false, false, false, false, false, false, false] (by kernel_rfl) rfl rfl ⟨cw0 BK162, cw1 BK162⟩ (fun hHeld => ?_); refine with_tabW spec_l12Small.tab2 spec_l12Small.bits2 (fun HT_ HW_ => ?_)
 generalize w11.drew = w12 at BK159 BK162 HB hHeld ⊢
 refine pU 0 6 #[true, false, false, false, false, false, false, false, false, false, false, false, false, false, false] HT_ ?_
 refine pU 2 8 #[true, false, true, false, false, false, false, false, false, false, false, false, false, false, false] HT_ ?_
 refine pU 7 13 #[true, false, true, false, false, false, false, true, false, false, false, false, false, false, false] HT_ ?_
 refine pU 9 15 #[true, false, true, false, false, false, false, true, false, true, false, false, false, false, false] HT_ ?_
 refine take_ (i := 1) (N := some 7) (v := ?_) (a' := ?_) #[true, true, true, false, false, false, false, true, false, true, false, false, false, false, false] rfl rfl (take_ofW HT_.out HW_.out (by kernel_rfl)) (fun _ _ _ h => h) (Or.inl ⟨by rfl, ?_⟩) hHeld ?_ ?_
 rotate_left
 ·rintro w' ⟨s0, s1⟩
  go_simp
  with_reducible rfl
 rotate_left
 ·simp only [Act.put, List.setIfInBounds_toArray, List.set_cons_zero, List.set_cons_succ, i64_w, i32_w]
  rfl
 refine take_ (i := 3) (N := some 9) (v := ?_) (a' := ?_) #[true, true, true, true, false, false, false, true, false, true, false, false, false, false, false] rfl rfl (take_ofW HT_.out HW_.out (by kernel_rfl)) (fun _ _ _ h => h) (Or.inl ⟨by rfl, ?_⟩) hHeld ?_ ?_
 rotate_left
 ·rintro w' ⟨s0, s1⟩
  go_simp
  with_reducible rfl
 rotate_left
 ·simp only [Act.put, List.setIfInBounds_toArray, List.set_cons_zero, List.set_cons_succ, i64_w, i32_w]
  rfl
 refine take_ (i := 8) (N := some 14) (v := ?_) (a' := ?_) #[true, true, true, true, false, false, false, true, true, true, false, false, false, false, false] rfl rfl (take_ofW HT_.out HW_.out (by kernel_rfl)) (fun _ _ _ h => h) (Or.inl ⟨by rfl, ?_⟩) hHeld ?_ ?_
 rotate_left
 ·rintro w' ⟨s0, s1⟩
  go_simp
  with_reducible rfl
 rotate_left
 ·simp only [Act.put, List.setIfInBounds_toArray, List.set_cons_zero, List.set_cons_succ, i64_w, i32_w]
  rfl
 refine take_ (i := 10) (N := some 16) (v := ?_) (a' := ?_) #[true, true, true, true, false, false, false, true, true, true, true, false, false, false, false] rfl rfl (take_ofW HT_.out HW_.out (by kernel_rfl)) (fun _ _ _ h => h) (Or.inl ⟨by rfl, ?_⟩) hHeld ?_ ?_
 rotate_left
 ·rintro w' ⟨s0, s1⟩
  go_simp
  with_reducible rfl
 rotate_left
 ·simp only [Act.put, List.setIfInBounds_toArray, List.set_cons_zero, List.set_cons_succ, i64_w, i32_w]
  rfl
 refine oN 4 10 #[true, true, true, true, true, false, false, true, true, true, true, false, false, false, false] HT_ (fun K hK => ?_)
 refine gS Try.func108 #[.int .i64 t160, .int .i64 t160, .int .i64 2] ?_
 with_reducible refine (spec_l12Row.calls k t160 t160 2 t163 t164 _ A3.out).mono ?_
 rintro e w13 ⟨rfl, hb⟩
 refine ⟨_, rfl, ?_⟩
 replace BK159 := bb (bk BK159) hb
 replace BK162 := bb (bk BK162) hb
 replace HB := hbb (hzs HB) hb
 clear hb
 refine hK.out _ _ ⟨cw0 BK162, cw1 BK162⟩ (fun hHeld => ?_)
 clear hK K
 refine nP ?_
 refine pU 5 11 #[true, true, true, true, true, true, false, true, true, true, true, false, false, false, false] HT_ ?_
 refine pU 6 12 #[true, true, true, true, true, true, true, true, true, true, true, false, false, false, false] HT_ ?_
 refine oN 11 17 #[true, true, true, true, true, true, true, true, true, true, true, true, false, false, false] HT_ (fun K hK => ?_)
 refine gS Try.func108 #[.int .i64 t161, .int .i64 t161, .int .i64 2] ?_
 with_reducible refine (spec_l12Row.calls k t161 t161 2 t165 t166 _ A5.out).mono ?_
 rintro e w14 ⟨rfl, hb⟩
 refine ⟨_, rfl, ?_⟩
 replace BK159 := bb (bk BK159) hb
 replace BK162 := bb (bk BK162) hb
 replace HB := hbb (hzs HB) hb
 clear hb
 refine hK.out _ _ ⟨cw0 BK162, cw1 BK162⟩ (fun hHeld => ?_)
 clear hK K
 refine nP ?_
 refine pU 12 18 #[true, true, true, true, true, true, true, true, true, true, true, true, true, false, false] HT_ ?_
 refine pU 13 19 #[true, true, true, true, true, true, true, true, true, true, true, true, true, true, false] HT_ ?_
 refine one_ (i := 14) (N := none) #[true, true, true, true, true, true, true, true, true, true, true, true, true, true, true] rfl rfl (one_of HT_.out (by kernel_rfl)) (by decide) (fun K hK => ?_)
 have hs15 : w14.cell? ⟨gb159, 0, none⟩ = some (.int .i64 0) := (blk_cell BK159.out 0).trans rfl
 have hfs15 := blk_frozen BK159.out 0
 have hns15_1 := NB162_159.out
 have hms15_1 := NB159_162.out
 have hs16 : w14.cell? ⟨gb159, 1, none⟩ = some (.int .i64 0) := (blk_cell BK159.out 1).trans rfl
 have hfs16 := blk_frozen BK159.out 1
 have hns16_1 := NB162_159.out
 have hms16_1 := NB159_162.out
 refine skip_ (w1 := ?_) (by rfl) rfl ?_ ?_
 rotate_left
 ·go_simp
  rfl
 refine hK.out _ _ ⟨((cell_far (p := ⟨gb159, _, none⟩) NB162_159.out _).trans (((cell_far (p := ⟨gb159, _, none⟩) NB162_159.out _).trans (hHeld.1)))), ((cell_far (p := ⟨gb159, _, none⟩) NB162_159.out _).trans (((cell_far (p := ⟨gb159, _, none⟩) NB162_159.out _).trans (hHeld.2))))⟩ (fun hHeld => ?_)
 clear hK K
 refine done_ (done_of HT_.out (by kernel_rfl)) ?_
 try go_wp2
 refine bodyPost_ret (results_cell_row rfl _ _ gb159 31 #[.int .i64 ji4, .int .i64 t166] (0, 0) _ rfl (bkp BK159) Try.underlying31 rfl (by kernel_rfl)) rfl ?_
 exact ⟨by first | rfl | (simp [errW_none, errW_some] <;> rfl) | (simp only [← hji4]; first | rfl | (simp [errW_none, errW_some] <;> rfl)) | (simp [*, errW_none, errW_some] <;> rfl), hzs HB⟩


/-! ### spec_l12Quart: function 104 -/
def spec_l12Quart.f (k : Nat) (a0 : Int) : Option (Int × Int) := if a0 = 0 then (some (0, 0)) else (if a0 = 21600000 then (some (500000000, 500000000)) else (if a0 = 64800000 then (some (1000000000, 1000000000)) else (if a0 ≤ 32400000 then ((spec_l12Small.f k a0).bind fun bt176 => (some (bt176.1, bt176.2))) else ((spec_l12Near.f k (wrap64 (64800000 - a0))).bind fun bt178 => (some (bt178.1, bt178.2))))))
set_option maxHeartbeats 8000000 in
set_option maxRecDepth 100000 in
theorem spec_l12Quart.calls (k : Nat) (a0 : Int) (r1 : Int) (r2 : Int) (w : World) (h : spec_l12Quart.f k a0 = some (r1, r2)) :
  Calls Try.prog 104 #[.int .i64 a0] w fun e w' => e = .returned (.agg #[.int .i64 r1, .int .i64 r2]) ∧ Below w.heap.size w w' := by
 have hu31 := Try.underlying31
 have HB := Aside0.mk (Below.refl w.heap.size w)
 have H := h
 clear h
 unfold spec_l12Quart.f at H
 by_cases c2 : a0 = 0
 ·rw [if_pos c2] at H
  have c2b0 : (a0 == 0) = true := beq_iff_eq.mpr c2
  have c2b1 : (a0 != 0) = false := bne_eq_false_iff_eq.mpr c2
  clear c2
  simp only [Option.some.injEq, Prod.mk.injEq] at H
  obtain ⟨rfl, rfl⟩ := H
  go_enter Try.func104, Try.ntmps104
  go_wp2_with (first | ((with_reducible refine gate_dst (N := 2) rfl ?_); refine bE 2 #[.int .i64 0, .int .i64 0] 31 ?_; intro gb175 hg w3 hbox hb; have BK175 := Aside0.mk (hbox); have GE175 := gw hg (hz0 HB); have GW175 := GE175; replace HB := hbb (hz0 HB) hb; clear hb hbox hg; obtain ⟨hcz4_0, hcz4_1, hfz4_0, hfz4_1⟩ := cz2 BK175))
  refine bodyPost_ret (results_cell_row rfl _ _ gb175 31 #[.int .i64 0, .int .i64 0] (0, 0) _ rfl (bkp BK175) Try.underlying31 rfl (by kernel_rfl)) rfl ?_
  exact ⟨by first | rfl | (simp [errW_none, errW_some] <;> rfl) | (simp [*, errW_none, errW_some] <;> rfl), hzs HB⟩
 ·rw [if_neg c2] at H
  have c2b0 : (a0 == 0) = false := beq_eq_false_iff_ne.mpr c2
  have c2b1 : (a0 != 0) = true := bne_iff_ne.mpr c2
  by_cases c5 : a0 = 21600000
  ·rw [if_pos c5] at H
   have c5b0 : (a0 == 21600000) = true := beq_iff_eq.mpr c5
   have c5b1 : (a0 != 21600000) = false := bne_eq_false_iff_eq.mpr c5
   clear c5
   simp only [Option.some.injEq, Prod.mk.injEq] at H
   obtain ⟨rfl, rfl⟩ := H
   go_enter Try.func104, Try.ntmps104
   go_wp2_with (first | ((with_reducible refine gate_dst (N := 2) rfl ?_); refine bE 2 #[.int .i64 0, .int .i64 0] 31 ?_; intro gb175 hg w6 hbox hb; have BK175 := Aside0.mk (hbox); have GE175 := gw hg (hz0 HB); have GW175 := GE175; replace HB := hbb (hz0 HB) hb; clear hb hbox hg; obtain ⟨hcz7_0, hcz7_1, hfz7_0, hfz7_1⟩ := cz2 BK175))
   refine bodyPost_ret (results_cell_row rfl _ _ gb175 31 #[.int .i64 500000000, .int .i64 500000000] (0, 0) _ rfl (bkp BK175) Try.underlying31 rfl (by kernel_rfl)) rfl ?_
   exact ⟨by first | rfl | (simp [errW_none, errW_some] <;> rfl) | (simp [*, errW_none, errW_some] <;> rfl), hzs HB⟩
  ·rw [if_neg c5] at H
   have c5b0 : (a0 == 21600000) = false := beq_eq_false_iff_ne.mpr c5
   have c5b1 : (a0 != 21600000) = true := bne_iff_ne.mpr c5
   by_cases c8 : a0 = 64800000
   ·rw [if_pos c8] at H
    have c8b0 : (a0 == 64800000) = true := beq_iff_eq.mpr c8
    have c8b1 : (a0 != 64800000) = false := bne_eq_false_iff_eq.mpr c8
    clear c8
    simp only [Option.some.injEq, Prod.mk.injEq] at H
    obtain ⟨rfl, rfl⟩ := H
    go_enter Try.func104, Try.ntmps104
    go_wp2_with (first | ((with_reducible refine gate_dst (N := 2) rfl ?_); refine bE 2 #[.int .i64 0, .int .i64 0] 31 ?_; intro gb175 hg w9 hbox hb; have BK175 := Aside0.mk (hbox); have GE175 := gw hg (hz0 HB); have GW175 := GE175; replace HB := hbb (hz0 HB) hb; clear hb hbox hg; obtain ⟨hcz10_0, hcz10_1, hfz10_0, hfz10_1⟩ := cz2 BK175))
    refine bodyPost_ret (results_cell_row rfl _ _ gb175 31 #[.int .i64 1000000000, .int .i64 1000000000] (0, 0) _ rfl (bkp BK175) Try.underlying31 rfl (by kernel_rfl)) rfl ?_
    exact ⟨by first | rfl | (simp [errW_none, errW_some] <;> rfl) | (simp [*, errW_none, errW_some] <;> rfl), hzs HB⟩
   ·rw [if_neg c8] at H
    have c8b0 : (a0 == 64800000) = false := beq_eq_false_iff_ne.mpr c8
    have c8b1 : (a0 != 64800000) = true := bne_iff_ne.mpr c8
    by_cases c11 : a0 ≤ 32400000
    ·rw [if_pos c11] at H
     have c11b0 : decide (a0 ≤ 32400000) = true := decide_eq_true c11
     clear c11
     replace H := Option.bind_eq_some_iff.mp H
     obtain ⟨⟨t176, t177⟩, A120, H⟩ := H
     try dsimp only at H
     have A12 := Aside0.mk A120
     clear A120
     simp only [Option.some.injEq, Prod.mk.injEq] at H
     obtain ⟨rfl, rfl⟩ := H
     go_enter Try.func104, Try.ntmps104
     go_wp2_with (first | ((with_reducible refine gate_dst (N := 2) rfl ?_); refine bE 2 #[.int .i64 0, .int .i64 0] 31 ?_; intro gb175 hg w13 hbox hb; have BK175 := Aside0.mk (hbox); have GE175 := gw hg (hz0 HB); have GW175 := GE175; replace HB := hbb (hz0 HB) hb; clear hb hbox hg) | ((with_reducible refine gate_callee (f := 105) rfl ?_); refine gL 16 Try.func105 #[.int .i64 a0] ?_; (with_reducible refine (spec_l12Small.calls k a0 t176 t177 _ A12.out).mono ?_); rintro e w14 ⟨rfl, hb⟩; refine ⟨_, rfl, ?_⟩; replace BK175 := bb (bk BK175) hb; replace HB := hbb (hzs HB) hb; clear hb; obtain ⟨hcz15_0, hcz15_1, hfz15_0, hfz15_1⟩ := cz2 BK175))
     refine bodyPost_ret (results_cell_row rfl _ _ gb175 31 #[.int .i64 t176, .int .i64 t177] (0, 0) _ rfl (bkp BK175) Try.underlying31 rfl (by kernel_rfl)) rfl ?_
     exact ⟨by first | rfl | (simp [errW_none, errW_some] <;> rfl) | (simp [*, errW_none, errW_some] <;> rfl), hzs HB⟩
    ·rw [if_neg c11] at H
     have c11b0 : decide (a0 ≤ 32400000) = false := decide_eq_false c11
     clear c11
     replace H := Option.bind_eq_some_iff.mp H
     obtain ⟨⟨t178, t179⟩, A160, H⟩ := H
     try dsimp only at H
     have A16 := Aside0.mk A160
     clear A160
     simp only [Option.some.injEq, Prod.mk.injEq] at H
     obtain ⟨rfl, rfl⟩ := H
     go_enter Try.func104, Try.ntmps104
     go_wp2_with (first | ((with_reducible refine gate_dst (N := 2) rfl ?_); refine bE 2 #[.int .i64 0, .int .i64 0] 31 ?_; intro gb175 hg w17 hbox hb; have BK175 := Aside0.mk (hbox); have GE175 := gw hg (hz0 HB); have GW175 := GE175; replace HB := hbb (hz0 HB) hb; clear hb hbox hg) | ((with_reducible refine gate_callee (f := 106) rfl ?_); refine gL 19 Try.func106 #[.int .i64 (wrap64 (64800000 - a0))] ?_; (with_reducible refine (spec_l12Near.calls k (wrap64 (64800000 - a0)) t178 t179 _ A16.out).mono ?_); rintro e w18 ⟨rfl, hb⟩; refine ⟨_, rfl, ?_⟩; replace BK175 := bb (bk BK175) hb; replace HB := hbb (hzs HB) hb; clear hb; obtain ⟨hcz19_0, hcz19_1, hfz19_0, hfz19_1⟩ := cz2 BK175))
     refine bodyPost_ret (results_cell_row rfl _ _ gb175 31 #[.int .i64 t178, .int .i64 t179] (0, 0) _ rfl (bkp BK175) Try.underlying31 rfl (by kernel_rfl)) rfl ?_
     exact ⟨by first | rfl | (simp [errW_none, errW_some] <;> rfl) | (simp [*, errW_none, errW_some] <;> rfl), hzs HB⟩


/-! ### spec_l12Sine: function 98 -/
def spec_l12Sine.f : Nat → Int → Option (Int × Int)
 | 0, _ => none
 | k + 1, a0 => (spec_l1Down.f a0 259200000).bind fun t181 => (if (wrap64 (a0 - (wrap64 (t181 * 259200000)))) ≥ 129600000 then ((spec_l12Sine.f k (wrap64 ((wrap64 (a0 - (wrap64 (t181 * 259200000)))) - 129600000))).bind fun bt182 => ((spec_SpanNeg.f bt182.1 bt182.2).bind fun bt184 => (some (bt184.1, bt184.2)))) else (if (wrap64 (a0 - (wrap64 (t181 * 259200000)))) > 64800000 then ((spec_l12Quart.f k (wrap64 (129600000 - (wrap64 (a0 - (wrap64 (t181 * 259200000))))))).bind fun bt186 => (some (bt186.1, bt186.2))) else ((spec_l12Quart.f k (wrap64 (a0 - (wrap64 (t181 * 259200000))))).bind fun bt188 => (some (bt188.1, bt188.2)))))
set_option maxHeartbeats 8000000 in
set_option maxRecDepth 100000 in
theorem spec_l12Sine.calls (k : Nat) : ∀ (a0 : Int) (r1 : Int) (r2 : Int) (w : World) (h : spec_l12Sine.f k a0 = some (r1, r2)),
  Calls Try.prog 98 #[.int .i64 a0] w fun e w' => e = .returned (.agg #[.int .i64 r1, .int .i64 r2]) ∧ Below w.heap.size w w' := by
 induction k using Nat.strongRecOn with
 | _ k ih =>
 intro a0 r1 r2 w h
 cases k with
 | zero => exact absurd h (by simp [spec_l12Sine.f])
 | succ k =>
 simp only [spec_l12Sine.f] at h
 have hu31 := Try.underlying31
 have HB := Aside0.mk (Below.refl w.heap.size w)
 have H : ((spec_l1Down.f a0 259200000).bind fun t181 => (if (wrap64 (a0 - (wrap64 (t181 * 259200000)))) ≥ 129600000 then ((spec_l12Sine.f k (wrap64 ((wrap64 (a0 - (wrap64 (t181 * 259200000)))) - 129600000))).bind fun bt182 => ((spec_SpanNeg.f bt182.1 bt182.2).bind fun bt184 => (some (bt184.1, bt184.2)))) else (if (wrap64 (a0 - (wrap64 (t181 * 259200000)))) > 64800000 then ((spec_l12Quart.f k (wrap64 (129600000 - (wrap64 (a0 - (wrap64 (t181 * 259200000))))))).bind fun bt186 => (some (bt186.1, bt186.2))) else ((spec_l12Quart.f k (wrap64 (a0 - (wrap64 (t181 * 259200000))))).bind fun bt188 => (some (bt188.1, bt188.2)))))) = some (r1, r2) := h
 clear h
 replace H := Option.bind_eq_some_iff.mp H
 obtain ⟨t181, A20, H⟩ := H
 try dsimp only at H
 have A2 := Aside0.mk A20
 clear A20
 by_cases c3 : (wrap64 (a0 - (wrap64 (t181 * 259200000)))) ≥ 129600000
 ·rw [if_pos c3] at H
  have c3b0 : decide (129600000 ≤ (wrap64 (a0 - (wrap64 (t181 * 259200000))))) = true := decide_eq_true c3
  clear c3
  replace H := Option.bind_eq_some_iff.mp H
  obtain ⟨⟨t182, t183⟩, A40, H⟩ := H
  try dsimp only at H
  have A4 := Aside0.mk A40
  clear A40
  replace H := Option.bind_eq_some_iff.mp H
  obtain ⟨⟨t184, t185⟩, A50, H⟩ := H
  try dsimp only at H
  have A5 := Aside0.mk A50
  clear A50
  simp only [Option.some.injEq, Prod.mk.injEq] at H
  obtain ⟨rfl, rfl⟩ := H
  go_enter Try.func98, Try.ntmps98
  go_wp2_with (first | ((with_reducible refine gate_dst (N := 2) rfl ?_); refine bE 2 #[.int .i64 0, .int .i64 0] 31 ?_; intro gb180 hg w6 hbox hb; have BK180 := Aside0.mk (hbox); have GE180 := gw hg (hz0 HB); have GW180 := GE180; replace HB := hbb (hz0 HB) hb; clear hb hbox hg) | ((with_reducible refine gate_callee (f := 83) rfl ?_); refine gL 7 Try.func83 #[.int .i64 a0, .int .i64 259200000] ?_; (with_reducible refine (spec_l1Down.calls a0 259200000 t181 _ A2.out).mono ?_); rintro e w' ⟨rfl, ⟨nd, rfl⟩⟩; refine ⟨_, rfl, ?_⟩; (try (rw [drewN_self w6]; generalize hq_ : World.drewN w6 _ = w6; have n0_ : Aside0 (w6.heap[gb180]? = some (.cells #[.int .i64 0, .int .i64 0] 31 (0, 0))) := ⟨by rw [← hq_]; exact (bk BK180)⟩; have n1_ : Aside0 (Below w.heap.size w w6) := ⟨by rw [← hq_]; exact (hzs HB)⟩; clear BK180 HB hq_; have BK180 := n0_; have HB := n1_; clear n0_ n1_))) | ((with_reducible refine gate_callee (f := 98) rfl ?_); refine gL 15 Try.func98 #[.int .i64 (wrap64 ((wrap64 (a0 - (wrap64 (t181 * 259200000)))) - 129600000))] ?_; (with_reducible refine (ih k (by omega) (wrap64 ((wrap64 (a0 - (wrap64 (t181 * 259200000)))) - 129600000)) t182 t183 _ A4.out).mono ?_); rintro e w7 ⟨rfl, hb⟩; refine ⟨_, rfl, ?_⟩; replace BK180 := bb (bk BK180) hb; replace HB := hbb (hzs HB) hb; clear hb) | ((with_reducible refine gate_callee (f := 75) rfl ?_); refine gL 16 Try.func75 #[.agg #[.int .i64 t182, .int .i64 t183]] ?_; (with_reducible refine (spec_SpanNeg.calls t182 t183 t184 t185 _ A5.out).mono ?_); rintro e w8 ⟨rfl, hb⟩; refine ⟨_, rfl, ?_⟩; replace BK180 := bb (bk BK180) hb; replace HB := hbb (hzs HB) hb; clear hb; obtain ⟨hcz9_0, hcz9_1, hfz9_0, hfz9_1⟩ := cz2 BK180))
  refine bodyPost_ret (results_cell_row rfl _ _ gb180 31 #[.int .i64 t184, .int .i64 t185] (0, 0) _ rfl (bkp BK180) Try.underlying31 rfl (by kernel_rfl)) rfl ?_
  exact ⟨by first | rfl | (simp [errW_none, errW_some] <;> rfl) | (simp [*, errW_none, errW_some] <;> rfl), hzs HB⟩
 ·rw [if_neg c3] at H
  have c3b0 : decide (129600000 ≤ (wrap64 (a0 - (wrap64 (t181 * 259200000))))) = false := decide_eq_false c3
  clear c3
  by_cases c10 : (wrap64 (a0 - (wrap64 (t181 * 259200000)))) > 64800000
  ·rw [if_pos c10] at H
   have c10b0 : decide (64800000 < (wrap64 (a0 - (wrap64 (t181 * 259200000))))) = true := decide_eq_true c10
   clear c10
   replace H := Option.bind_eq_some_iff.mp H
   obtain ⟨⟨t186, t187⟩, A110, H⟩ := H
   try dsimp only at H
   have A11 := Aside0.mk A110
   clear A110
   simp only [Option.some.injEq, Prod.mk.injEq] at H
   obtain ⟨rfl, rfl⟩ := H
   go_enter Try.func98, Try.ntmps98
   go_wp2_with (first | ((with_reducible refine gate_dst (N := 2) rfl ?_); refine bE 2 #[.int .i64 0, .int .i64 0] 31 ?_; intro gb180 hg w12 hbox hb; have BK180 := Aside0.mk (hbox); have GE180 := gw hg (hz0 HB); have GW180 := GE180; replace HB := hbb (hz0 HB) hb; clear hb hbox hg) | ((with_reducible refine gate_callee (f := 83) rfl ?_); refine gL 7 Try.func83 #[.int .i64 a0, .int .i64 259200000] ?_; (with_reducible refine (spec_l1Down.calls a0 259200000 t181 _ A2.out).mono ?_); rintro e w' ⟨rfl, ⟨nd, rfl⟩⟩; refine ⟨_, rfl, ?_⟩; (try (rw [drewN_self w12]; generalize hq_ : World.drewN w12 _ = w12; have n0_ : Aside0 (w12.heap[gb180]? = some (.cells #[.int .i64 0, .int .i64 0] 31 (0, 0))) := ⟨by rw [← hq_]; exact (bk BK180)⟩; have n1_ : Aside0 (Below w.heap.size w w12) := ⟨by rw [← hq_]; exact (hzs HB)⟩; clear BK180 HB hq_; have BK180 := n0_; have HB := n1_; clear n0_ n1_))) | ((with_reducible refine gate_callee (f := 104) rfl ?_); refine gL 21 Try.func104 #[.int .i64 (wrap64 (129600000 - (wrap64 (a0 - (wrap64 (t181 * 259200000))))))] ?_; (with_reducible refine (spec_l12Quart.calls k (wrap64 (129600000 - (wrap64 (a0 - (wrap64 (t181 * 259200000)))))) t186 t187 _ A11.out).mono ?_); rintro e w13 ⟨rfl, hb⟩; refine ⟨_, rfl, ?_⟩; replace BK180 := bb (bk BK180) hb; replace HB := hbb (hzs HB) hb; clear hb; obtain ⟨hcz14_0, hcz14_1, hfz14_0, hfz14_1⟩ := cz2 BK180))
   refine bodyPost_ret (results_cell_row rfl _ _ gb180 31 #[.int .i64 t186, .int .i64 t187] (0, 0) _ rfl (bkp BK180) Try.underlying31 rfl (by kernel_rfl)) rfl ?_
   exact ⟨by first | rfl | (simp [errW_none, errW_some] <;> rfl) | (simp [*, errW_none, errW_some] <;> rfl), hzs HB⟩
  ·rw [if_neg c10] at H
   have c10b0 : decide (64800000 < (wrap64 (a0 - (wrap64 (t181 * 259200000))))) = false := decide_eq_false c10
   clear c10
   replace H := Option.bind_eq_some_iff.mp H
   obtain ⟨⟨t188, t189⟩, A150, H⟩ := H
   try dsimp only at H
   have A15 := Aside0.mk A150
   clear A150
   simp only [Option.some.injEq, Prod.mk.injEq] at H
   obtain ⟨rfl, rfl⟩ := H
   go_enter Try.func98, Try.ntmps98
   go_wp2_with (first | ((with_reducible refine gate_dst (N := 2) rfl ?_); refine bE 2 #[.int .i64 0, .int .i64 0] 31 ?_; intro gb180 hg w16 hbox hb; have BK180 := Aside0.mk (hbox); have GE180 := gw hg (hz0 HB); have GW180 := GE180; replace HB := hbb (hz0 HB) hb; clear hb hbox hg) | ((with_reducible refine gate_callee (f := 83) rfl ?_); refine gL 7 Try.func83 #[.int .i64 a0, .int .i64 259200000] ?_; (with_reducible refine (spec_l1Down.calls a0 259200000 t181 _ A2.out).mono ?_); rintro e w' ⟨rfl, ⟨nd, rfl⟩⟩; refine ⟨_, rfl, ?_⟩; (try (rw [drewN_self w16]; generalize hq_ : World.drewN w16 _ = w16; have n0_ : Aside0 (w16.heap[gb180]? = some (.cells #[.int .i64 0, .int .i64 0] 31 (0, 0))) := ⟨by rw [← hq_]; exact (bk BK180)⟩; have n1_ : Aside0 (Below w.heap.size w w16) := ⟨by rw [← hq_]; exact (hzs HB)⟩; clear BK180 HB hq_; have BK180 := n0_; have HB := n1_; clear n0_ n1_))) | ((with_reducible refine gate_callee (f := 104) rfl ?_); refine gL 23 Try.func104 #[.int .i64 (wrap64 (a0 - (wrap64 (t181 * 259200000))))] ?_; (with_reducible refine (spec_l12Quart.calls k (wrap64 (a0 - (wrap64 (t181 * 259200000)))) t188 t189 _ A15.out).mono ?_); rintro e w17 ⟨rfl, hb⟩; refine ⟨_, rfl, ?_⟩; replace BK180 := bb (bk BK180) hb; replace HB := hbb (hzs HB) hb; clear hb; obtain ⟨hcz18_0, hcz18_1, hfz18_0, hfz18_1⟩ := cz2 BK180))
   refine bodyPost_ret (results_cell_row rfl _ _ gb180 31 #[.int .i64 t188, .int .i64 t189] (0, 0) _ rfl (bkp BK180) Try.underlying31 rfl (by kernel_rfl)) rfl ?_
   exact ⟨by first | rfl | (simp [errW_none, errW_some] <;> rfl) | (simp [*, errW_none, errW_some] <;> rfl), hzs HB⟩


end Go.Proofs.Ytlodpfddimeffaa.M
