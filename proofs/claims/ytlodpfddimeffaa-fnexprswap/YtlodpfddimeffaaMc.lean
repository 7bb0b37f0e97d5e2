import Derived.Test.YtlodpfddimeffaaM0
import Derived.Test.YtlodpfddimeffaaMa
import Derived.Test.YtlodpfddimeffaaMb
namespace Go.Proofs.Ytlodpfddimeffaa.M
open Go.RowKit Go.Proofs.YtlodpfddimeffaaW.PrintWords Go.Proofs.YtlodpfddimeffaaW.PrintLast Go.Proofs.YtlodpfddimeffaaW.PrintMore
attribute [local go_sem] max2_int min2_int max_two min_two max_three min_three max_four min_four
attribute [local go_sem high] eqA31
attribute [local go_sem] fld31_0 fld31_1 fld25_0 fld25_1 fld25_2 fld25_3
set_option linter.unusedVariables false
set_option linter.unusedSimpArgs false

/-! ### impl_sine: function 90 -/
def impl_sine.f : Nat → Int → Option (Int × Int)
 | 0, _ => none
 | k + 1, a0 => (impl_modulo.f a0 259200000).bind fun t374 => (if t374 ≥ 129600000 then ((impl_sine.f k (wrap64 (t374 - 129600000))).bind fun bt375 => ((impl_SpanNeg.f bt375.1 bt375.2).bind fun bt377 => (some (bt377.1, bt377.2)))) else (if t374 > 64800000 then ((impl_sine.f k (wrap64 (129600000 - t374))).bind fun bt379 => (some (bt379.1, bt379.2))) else (if t374 = 0 then (some (0, 0)) else (if t374 = 21600000 then (some (500000000, 500000000)) else (if t374 = 64800000 then (some (1000000000, 1000000000)) else (if t374 ≤ 32400000 then ((impl_arc.f t374).bind fun bt381 => ((impl_row.f k bt381.1 bt381.1 2).bind fun bt384 => ((impl_row.f k bt381.2 bt381.2 2).bind fun bt386 => (some (mx 0 bt384.1, bt386.2))))) else ((impl_arc.f (wrap64 (64800000 - t374))).bind fun bt388 => ((impl_row.f k 1000000000 bt388.2 1).bind fun bt391 => ((impl_row.f k 1000000000 bt388.1 1).bind fun bt393 => (some (bt391.1, mn 1000000000 bt393.2)))))))))))
def impl_sine.T14 : Bool × List (List Nat × List Nat) := (true, [([], []), ([0], [0]), ([], []), ([2], [2]), ([1, 3], [1, 3]), ([4], [4]), ([5], [5]), ([], []), ([7], [7]), ([], []), ([9], [9]), ([8, 10, 4], [8, 10]), ([11], [11]), ([6, 12], [6, 12]), ([13, 11, 0, 1, 2, 3, 4, 5, 6, 7, 8, 9, 10, 11, 12, 13], [13])])
def impl_sine.B14 : List Nat := [0, 1, 0, 4, 15, 31, 63, 0, 128, 0, 512, 1951, 3999, 8191, 16383]
theorem impl_sine.tab14 : rtab .any (opsOf Try.f90 14) = impl_sine.T14 := by kernel_rfl
theorem impl_sine.bits14 : waitsOk impl_sine.T14.2 impl_sine.B14 = true := by kernel_rfl
def impl_sine.T16 : Bool × List (List Nat × List Nat) := (true, [([], []), ([0], [0]), ([1], [1]), ([2], [2]), ([], []), ([4], [4]), ([5, 2], [5]), ([6], [6]), ([7], [7]), ([3, 8], [3, 8]), ([9, 6, 0, 1, 2, 3, 4, 5, 6, 7, 8, 9], [9])])
def impl_sine.B16 : List Nat := [0, 1, 3, 7, 0, 16, 55, 119, 247, 511, 1023]
theorem impl_sine.tab16 : rtab .any (opsOf Try.f90 16) = impl_sine.T16 := by kernel_rfl
theorem impl_sine.bits16 : waitsOk impl_sine.T16.2 impl_sine.B16 = true := by kernel_rfl
set_option maxHeartbeats 8000000 in
set_option maxRecDepth 100000 in
theorem impl_sine.calls (k : Nat) : ∀ (a0 : Int) (r1 : Int) (r2 : Int) (w : World) (h : impl_sine.f k a0 = some (r1, r2)),
  Calls Try.prog 90 #[.int .i64 a0] w fun e w' => e = .returned (.agg #[.int .i64 r1, .int .i64 r2]) ∧ Below w.heap.size w w' := by
 induction k using Nat.strongRecOn with
 | _ k ih =>
 intro a0 r1 r2 w h
 cases k with
 | zero => exact absurd h (by simp [impl_sine.f])
 | succ k =>
 simp only [impl_sine.f] at h
 have hu31 := Try.underlying31
 have HB := Aside0.mk (Below.refl w.heap.size w)
 have H : ((impl_modulo.f a0 259200000).bind fun t374 => (if t374 ≥ 129600000 then ((impl_sine.f k (wrap64 (t374 - 129600000))).bind fun bt375 => ((impl_SpanNeg.f bt375.1 bt375.2).bind fun bt377 => (some (bt377.1, bt377.2)))) else (if t374 > 64800000 then ((impl_sine.f k (wrap64 (129600000 - t374))).bind fun bt379 => (some (bt379.1, bt379.2))) else (if t374 = 0 then (some (0, 0)) else (if t374 = 21600000 then (some (500000000, 500000000)) else (if t374 = 64800000 then (some (1000000000, 1000000000)) else (if t374 ≤ 32400000 then ((impl_arc.f t374).bind fun bt381 => ((impl_row.f k bt381.1 bt381.1 2).bind fun bt384 => ((impl_row.f k bt381.2 bt381.2 2).bind fun bt386 => (some (mx 0 bt384.1, bt386.2))))) else ((impl_arc.f (wrap64 (64800000 - t374))).bind fun bt388 => ((impl_row.f k 1000000000 bt388.2 1).bind fun bt391 => ((impl_row.f k 1000000000 bt388.1 1).bind fun bt393 => (some (bt391.1, mn 1000000000 bt393.2)))))))))))) = some (r1, r2) := h
 clear h
 replace H := Option.bind_eq_some_iff.mp H
 obtain ⟨t374, A20, H⟩ := H
 try dsimp only at H
 have A2 := Aside0.mk A20
 clear A20
 by_cases c3 : t374 ≥ 129600000
 ·rw [if_pos c3] at H
  have c3b0 : decide (129600000 ≤ t374) = true := decide_eq_true c3
  clear c3
  replace H := Option.bind_eq_some_iff.mp H
  obtain ⟨⟨t375, t376⟩, A40, H⟩ := H
  try dsimp only at H
  have A4 := Aside0.mk A40
  clear A40
  replace H := Option.bind_eq_some_iff.mp H
  obtain ⟨⟨t377, t378⟩, A50, H⟩ := H
  try dsimp only at H
  have A5 := Aside0.mk A50
  clear A50
  simp only [Option.some.injEq, Prod.mk.injEq] at H
  obtain ⟨rfl, rfl⟩ := H
  go_enter Try.func90, Try.ntmps90
  go_wp2_with (first | ((with_reducible refine gate_dst (N := 2) rfl ?_); refine bE 2 #[.int .i64 0, .int .i64 0] 31 ?_; intro gb373 hg w6 hbox hb; have BK373 := Aside0.mk (hbox); have GE373 := gw hg (hz0 HB); have GW373 := GE373; replace HB := hbb (hz0 HB) hb; clear hb hbox hg) | ((with_reducible refine gate_callee (f := 101) rfl ?_); refine gL 6 Try.func101 #[.int .i64 a0, .int .i64 259200000] ?_; (with_reducible refine (impl_modulo.calls a0 259200000 t374 _ A2.out).mono ?_); rintro e w' ⟨rfl, ⟨nd, rfl⟩⟩; refine ⟨_, rfl, ?_⟩; (try (rw [drewN_self w6]; generalize hq_ : World.drewN w6 _ = w6; have n0_ : Aside0 (w6.heap[gb373]? = some (.cells #[.int .i64 0, .int .i64 0] 31 (0, 0))) := ⟨by rw [← hq_]; exact (bk BK373)⟩; have n1_ : Aside0 (Below w.heap.size w w6) := ⟨by rw [← hq_]; exact (hzs HB)⟩; clear BK373 HB hq_; have BK373 := n0_; have HB := n1_; clear n0_ n1_))) | ((with_reducible refine gate_callee (f := 90) rfl ?_); refine gL 12 Try.func90 #[.int .i64 (wrap64 (t374 - 129600000))] ?_; (with_reducible refine (ih k (by omega) (wrap64 (t374 - 129600000)) t375 t376 _ A4.out).mono ?_); rintro e w7 ⟨rfl, hb⟩; refine ⟨_, rfl, ?_⟩; replace BK373 := bb (bk BK373) hb; replace HB := hbb (hzs HB) hb; clear hb) | ((with_reducible refine gate_callee (f := 34) rfl ?_); refine gL 13 Try.func34 #[.agg #[.int .i64 t375, .int .i64 t376]] ?_; (with_reducible refine (impl_SpanNeg.calls t375 t376 t377 t378 _ A5.out).mono ?_); rintro e w8 ⟨rfl, hb⟩; refine ⟨_, rfl, ?_⟩; replace BK373 := bb (bk BK373) hb; replace HB := hbb (hzs HB) hb; clear hb; obtain ⟨hcz9_0, hcz9_1, hfz9_0, hfz9_1⟩ := cz2 BK373))
  refine bodyPost_ret (results_cell_row rfl _ _ gb373 31 #[.int .i64 t377, .int .i64 t378] (0, 0) _ rfl (bkp BK373) Try.underlying31 rfl (by kernel_rfl)) rfl ?_
  exact ⟨by first | rfl | (simp [errW_none, errW_some] <;> rfl) | (simp [*, errW_none, errW_some] <;> rfl), hzs HB⟩
 ·rw [if_neg c3] at H
  have c3b0 : decide (129600000 ≤ t374) = false := decide_eq_false c3
  clear c3
  by_cases c10 : t374 > 64800000
  ·rw [if_pos c10] at H
   have c10b0 : decide (64800000 < t374) = true := decide_eq_true c10
   clear c10
   replace H := Option.bind_eq_some_iff.mp H
   obtain ⟨⟨t379, t380⟩, A110, H⟩ := H
   try dsimp only at H
   have A11 := Aside0.mk A110
   clear A110
   simp only [Option.some.injEq, Prod.mk.injEq] at H
   obtain ⟨rfl, rfl⟩ := H
   go_enter Try.func90, Try.ntmps90
   go_wp2_with (first | ((with_reducible refine gate_dst (N := 2) rfl ?_); refine bE 2 #[.int .i64 0, .int .i64 0] 31 ?_; intro gb373 hg w12 hbox hb; have BK373 := Aside0.mk (hbox); have GE373 := gw hg (hz0 HB); have GW373 := GE373; replace HB := hbb (hz0 HB) hb; clear hb hbox hg) | ((with_reducible refine gate_callee (f := 101) rfl ?_); refine gL 6 Try.func101 #[.int .i64 a0, .int .i64 259200000] ?_; (with_reducible refine (impl_modulo.calls a0 259200000 t374 _ A2.out).mono ?_); rintro e w' ⟨rfl, ⟨nd, rfl⟩⟩; refine ⟨_, rfl, ?_⟩; (try (rw [drewN_self w12]; generalize hq_ : World.drewN w12 _ = w12; have n0_ : Aside0 (w12.heap[gb373]? = some (.cells #[.int .i64 0, .int .i64 0] 31 (0, 0))) := ⟨by rw [← hq_]; exact (bk BK373)⟩; have n1_ : Aside0 (Below w.heap.size w w12) := ⟨by rw [← hq_]; exact (hzs HB)⟩; clear BK373 HB hq_; have BK373 := n0_; have HB := n1_; clear n0_ n1_))) | ((with_reducible refine gate_callee (f := 90) rfl ?_); refine gL 19 Try.func90 #[.int .i64 (wrap64 (129600000 - t374))] ?_; (with_reducible refine (ih k (by omega) (wrap64 (129600000 - t374)) t379 t380 _ A11.out).mono ?_); rintro e w13 ⟨rfl, hb⟩; refine ⟨_, rfl, ?_⟩; replace BK373 := bb (bk BK373) hb; replace HB := hbb (hzs HB) hb; clear hb; obtain ⟨hcz14_0, hcz14_1, hfz14_0, hfz14_1⟩ := cz2 BK373))
   refine bodyPost_ret (results_cell_row rfl _ _ gb373 31 #[.int .i64 t379, .int .i64 t380] (0, 0) _ rfl (bkp BK373) Try.underlying31 rfl (by kernel_rfl)) rfl ?_
   exact ⟨by first | rfl | (simp [errW_none, errW_some] <;> rfl) | (simp [*, errW_none, errW_some] <;> rfl), hzs HB⟩
  ·rw [if_neg c10] at H
   have c10b0 : decide (64800000 < t374) = false := decide_eq_false c10
   clear c10
   by_cases c15 : t374 = 0
   ·rw [if_pos c15] at H
    have c15b0 : (t374 == 0) = true := beq_iff_eq.mpr c15
    have c15b1 : (t374 != 0) = false := bne_eq_false_iff_eq.mpr c15
    clear c15
    simp only [Option.some.injEq, Prod.mk.injEq] at H
    obtain ⟨rfl, rfl⟩ := H
    go_enter Try.func90, Try.ntmps90
    go_wp2_with (first | ((with_reducible refine gate_dst (N := 2) rfl ?_); refine bE 2 #[.int .i64 0, .int .i64 0] 31 ?_; intro gb373 hg w16 hbox hb; have BK373 := Aside0.mk (hbox); have GE373 := gw hg (hz0 HB); have GW373 := GE373; replace HB := hbb (hz0 HB) hb; clear hb hbox hg) | ((with_reducible refine gate_callee (f := 101) rfl ?_); refine gL 6 Try.func101 #[.int .i64 a0, .int .i64 259200000] ?_; (with_reducible refine (impl_modulo.calls a0 259200000 t374 _ A2.out).mono ?_); rintro e w' ⟨rfl, ⟨nd, rfl⟩⟩; refine ⟨_, rfl, ?_⟩; (try (rw [drewN_self w16]; generalize hq_ : World.drewN w16 _ = w16; have n0_ : Aside0 (w16.heap[gb373]? = some (.cells #[.int .i64 0, .int .i64 0] 31 (0, 0))) := ⟨by rw [← hq_]; exact (bk BK373)⟩; have n1_ : Aside0 (Below w.heap.size w w16) := ⟨by rw [← hq_]; exact (hzs HB)⟩; clear BK373 HB hq_; have BK373 := n0_; have HB := n1_; clear n0_ n1_)); obtain ⟨hcz17_0, hcz17_1, hfz17_0, hfz17_1⟩ := cz2 BK373))
    refine bodyPost_ret (results_cell_row rfl _ _ gb373 31 #[.int .i64 0, .int .i64 0] (0, 0) _ rfl (bkp BK373) Try.underlying31 rfl (by kernel_rfl)) rfl ?_
    exact ⟨by first | rfl | (simp [errW_none, errW_some] <;> rfl) | (simp [*, errW_none, errW_some] <;> rfl), hzs HB⟩
   ·rw [if_neg c15] at H
    have c15b0 : (t374 == 0) = false := beq_eq_false_iff_ne.mpr c15
    have c15b1 : (t374 != 0) = true := bne_iff_ne.mpr c15
    by_cases c18 : t374 = 21600000
    ·rw [if_pos c18] at H
     have c18b0 : (t374 == 21600000) = true := beq_iff_eq.mpr c18
     have c18b1 : (t374 != 21600000) = false := bne_eq_false_iff_eq.mpr c18
     clear c18
     simp only [Option.some.injEq, Prod.mk.injEq] at H
     obtain ⟨rfl, rfl⟩ := H
     go_enter Try.func90, Try.ntmps90
     go_wp2_with (first | ((with_reducible refine gate_dst (N := 2) rfl ?_); refine bE 2 #[.int .i64 0, .int .i64 0] 31 ?_; intro gb373 hg w19 hbox hb; have BK373 := Aside0.mk (hbox); have GE373 := gw hg (hz0 HB); have GW373 := GE373; replace HB := hbb (hz0 HB) hb; clear hb hbox hg) | ((with_reducible refine gate_callee (f := 101) rfl ?_); refine gL 6 Try.func101 #[.int .i64 a0, .int .i64 259200000] ?_; (with_reducible refine (impl_modulo.calls a0 259200000 t374 _ A2.out).mono ?_); rintro e w' ⟨rfl, ⟨nd, rfl⟩⟩; refine ⟨_, rfl, ?_⟩; (try (rw [drewN_self w19]; generalize hq_ : World.drewN w19 _ = w19; have n0_ : Aside0 (w19.heap[gb373]? = some (.cells #[.int .i64 0, .int .i64 0] 31 (0, 0))) := ⟨by rw [← hq_]; exact (bk BK373)⟩; have n1_ : Aside0 (Below w.heap.size w w19) := ⟨by rw [← hq_]; exact (hzs HB)⟩; clear BK373 HB hq_; have BK373 := n0_; have HB := n1_; clear n0_ n1_)); obtain ⟨hcz20_0, hcz20_1, hfz20_0, hfz20_1⟩ := cz2 BK373))
     refine bodyPost_ret (results_cell_row rfl _ _ gb373 31 #[.int .i64 500000000, .int .i64 500000000] (0, 0) _ rfl (bkp BK373) Try.underlying31 rfl (by kernel_rfl)) rfl ?_
     exact ⟨by first | rfl | (simp [errW_none, errW_some] <;> rfl) | (simp [*, errW_none, errW_some] <;> rfl), hzs HB⟩
    ·rw [if_neg c18] at H
     have c18b0 : (t374 == 21600000) = false := beq_eq_false_iff_ne.mpr c18
     have c18b1 : (t374 != 21600000) = true := bne_iff_ne.mpr c18
     by_cases c21 : t374 = 64800000
     ·rw [if_pos c21] at H
      have c21b0 : (t374 == 64800000) = true := beq_iff_eq.mpr c21
      have c21b1 : (t374 != 64800000) = false := bne_eq_false_iff_eq.mpr c21
      clear c21
      simp only [Option.some.injEq, Prod.mk.injEq] at H
      obtain ⟨rfl, rfl⟩ := H
      go_enter Try.func90, Try.ntmps90
      go_wp2_with (first | ((with_reducible refine gate_dst (N := 2) rfl ?_); refine bE 2 #[.int .i64 0, .int .i64 0] 31 ?_; intro gb373 hg w22 hbox hb; have BK373 := Aside0.mk (hbox); have GE373 := gw hg (hz0 HB); have GW373 := GE373; replace HB := hbb (hz0 HB) hb; clear hb hbox hg) | ((with_reducible refine gate_callee (f := 101) rfl ?_); refine gL 6 Try.func101 #[.int .i64 a0, .int .i64 259200000] ?_; (with_reducible refine (impl_modulo.calls a0 259200000 t374 _ A2.out).mono ?_); rintro e w' ⟨rfl, ⟨nd, rfl⟩⟩; refine ⟨_, rfl, ?_⟩; (try (rw [drewN_self w22]; generalize hq_ : World.drewN w22 _ = w22; have n0_ : Aside0 (w22.heap[gb373]? = some (.cells #[.int .i64 0, .int .i64 0] 31 (0, 0))) := ⟨by rw [← hq_]; exact (bk BK373)⟩; have n1_ : Aside0 (Below w.heap.size w w22) := ⟨by rw [← hq_]; exact (hzs HB)⟩; clear BK373 HB hq_; have BK373 := n0_; have HB := n1_; clear n0_ n1_)); obtain ⟨hcz23_0, hcz23_1, hfz23_0, hfz23_1⟩ := cz2 BK373))
      refine bodyPost_ret (results_cell_row rfl _ _ gb373 31 #[.int .i64 1000000000, .int .i64 1000000000] (0, 0) _ rfl (bkp BK373) Try.underlying31 rfl (by kernel_rfl)) rfl ?_
      exact ⟨by first | rfl | (simp [errW_none, errW_some] <;> rfl) | (simp [*, errW_none, errW_some] <;> rfl), hzs HB⟩
     ·rw [if_neg c21] at H
      have c21b0 : (t374 == 64800000) = false := beq_eq_false_iff_ne.mpr c21
      have c21b1 : (t374 != 64800000) = true := bne_iff_ne.mpr c21
      by_cases c24 : t374 ≤ 32400000
      ·rw [if_pos c24] at H
       have c24b0 : decide (t374 ≤ 32400000) = true := decide_eq_true c24
       clear c24
       replace H := Option.bind_eq_some_iff.mp H
       obtain ⟨⟨t381, t382⟩, A250, H⟩ := H
       try dsimp only at H
       have A25 := Aside0.mk A250
       clear A250
       replace H := Option.bind_eq_some_iff.mp H
       obtain ⟨⟨t384, t385⟩, A260, H⟩ := H
       try dsimp only at H
       have A26 := Aside0.mk A260
       clear A260
       obtain ⟨ji27, hji27⟩ : ∃ j_ : Int, (mx 0 t384) = j_ := ⟨_, rfl⟩
       first | rw [hji27] at H | simp only [hji27] at H
       (try rw [hji27] at A2)
       (try rw [hji27] at A25)
       (try rw [hji27] at A26)
       (try (have hji27l : 0 ≤ ji27 := by (rw [← hji27]; unfold mx; (repeat' split) <;> omega)))
       (try (have hji27m : 0 ≤ ji27 := by omega))
       have hji27_ : (if 0 < t384 then t384 else 0) = ji27 := hji27
       replace H := Option.bind_eq_some_iff.mp H
       obtain ⟨⟨t386, t387⟩, A280, H⟩ := H
       try dsimp only at H
       have A28 := Aside0.mk A280
       clear A280
       simp only [Option.some.injEq, Prod.mk.injEq] at H
       obtain ⟨rfl, rfl⟩ := H
       go_enter Try.func90, Try.ntmps90
       try go_wp2_with (first | ((with_reducible refine gate_dst (N := 2) rfl ?_); refine bE 2 #[.int .i64 0, .int .i64 0] 31 ?_; intro gb373 hg w29 hbox hb; have BK373 := Aside0.mk (hbox); have GE373 := gw hg (hz0 HB); have GW373 := GE373; replace HB := hbb (hz0 HB) hb; clear hb hbox hg) | ((with_reducible refine gate_callee (f := 101) rfl ?_); refine gL 6 Try.func101 #[.int .i64 a0, .int .i64 259200000] ?_; (with_reducible refine (impl_modulo.calls a0 259200000 t374 _ A2.out).mono ?_); rintro e w' ⟨rfl, ⟨nd, rfl⟩⟩; refine ⟨_, rfl, ?_⟩; (try (rw [drewN_self w29]; generalize hq_ : World.drewN w29 _ = w29; have n0_ : Aside0 (w29.heap[gb373]? = some (.cells #[.int .i64 0, .int .i64 0] 31 (0, 0))) := ⟨by rw [← hq_]; exact (bk BK373)⟩; have n1_ : Aside0 (Below w.heap.size w w29) := ⟨by rw [← hq_]; exact (hzs HB)⟩; clear BK373 HB hq_; have BK373 := n0_; have HB := n1_; clear n0_ n1_))) | ((with_reducible refine gate_callee (f := 102) rfl ?_); refine gL 36 Try.func102 #[.int .i64 t374] ?_; (with_reducible refine (impl_arc.calls t374 t381 t382 _ A25.out).mono ?_); rintro e w30 ⟨rfl, hb⟩; refine ⟨_, rfl, ?_⟩; replace BK373 := bb (bk BK373) hb; replace HB := hbb (hzs HB) hb; clear hb) | ((with_reducible refine gate_dst (N := 3) rfl ?_); refine bE 3 #[.int .i64 0, .int .i64 0] 31 ?_; intro gb383 hg w31 hbox hb; have BK383 := Aside0.mk (hbox); have GE383 := gw hg (hzs HB); have NB373_383 := nl hg (bk BK373); have NB383_373 := ng hg (bk BK373); replace BK373 := bb (bk BK373) hb; replace HB := hbb (hzs HB) hb; clear hb hbox hg; have hnb32 := NB383_373.out; have hnc32 := NB373_383.out; obtain ⟨hcz33_0, hcz33_1, hfz33_0, hfz33_1⟩ := cz2 BK383))
       have n0_ : Aside0 (((w31.setCell ⟨gb383, 0, none⟩ (.int .i64 t381)).setCell ⟨gb383, 1, none⟩ (.int .i64 t382)).heap[gb373]? = some (.cells #[.int .i64 0, .int .i64 0] 31 (0, 0))) := ⟨bk1 BK373 NB373_383⟩
       have n1_ : Aside0 (((w31.setCell ⟨gb383, 0, none⟩ (.int .i64 t381)).setCell ⟨gb383, 1, none⟩ (.int .i64 t382)).heap[gb383]? = some (.cells #[.int .i64 t381, .int .i64 t382] 31 (0, 0))) := ⟨bkp BK383⟩
       have n2_ : Aside0 (Below w.heap.size w ((w31.setCell ⟨gb383, 0, none⟩ (.int .i64 t381)).setCell ⟨gb383, 1, none⟩ (.int .i64 t382))) := ⟨hzs HB⟩
       (try clear BK373)
       (try clear BK383)
       (try clear HB)
       generalize ((w31.setCell ⟨gb383, 0, none⟩ (.int .i64 t381)).setCell ⟨gb383, 1, none⟩ (.int .i64 t382)) = w34 at n0_ n1_ n2_ ⊢
       have BK373 := n0_
       have BK383 := n1_
       have HB := n2_
       clear n0_ n1_ n2_
       replace BK373 := Aside0.mk (blk_drew BK373.out)
       replace BK383 := Aside0.mk (blk_drew BK383.out)
       replace HB := Aside0.mk (below_drew1 HB.out)
       refine start_ (n := 15) (S := fun w' => w'.cell? ⟨gb383, 0, none⟩ = some (.int .i64 t381) ∧ w'.cell? ⟨gb383, 1, none⟩ = some (.int .i64 t382)) (ds := []) #[false, false, false, false, false, false, false, false, false, false, false, false, false, false, false] (by kernel_rfl) rfl rfl ⟨cw0 BK383, cw1 BK383⟩ (fun hHeld => ?_); refine with_tabW impl_sine.tab14 impl_sine.bits14 (fun HT_ HW_ => ?_)
       generalize w34.drew = w35 at BK373 BK383 HB hHeld ⊢
       refine pU 0 37 #[true, false, false, false, false, false, false, false, false, false, false, false, false, false, false] HT_ ?_
       refine pU 2 39 #[true, false, true, false, false, false, false, false, false, false, false, false, false, false, false] HT_ ?_
       refine pU 7 44 #[true, false, true, false, false, false, false, true, false, false, false, false, false, false, false] HT_ ?_
       refine pU 9 46 #[true, false, true, false, false, false, false, true, false, true, false, false, false, false, false] HT_ ?_
       refine take_ (i := 1) (N := some 38) (v := ?_) (a' := ?_) #[true, true, true, false, false, false, false, true, false, true, false, false, false, false, false] rfl rfl (take_ofW HT_.out HW_.out (by kernel_rfl)) (fun _ _ _ h => h) (Or.inl ⟨by rfl, ?_⟩) hHeld ?_ ?_
       rotate_left
       ·rintro w' ⟨s0, s1⟩
        go_simp
        with_reducible rfl
       rotate_left
       ·simp only [Act.put, List.setIfInBounds_toArray, List.set_cons_zero, List.set_cons_succ, i64_w, i32_w]
        rfl
       refine take_ (i := 3) (N := some 40) (v := ?_) (a' := ?_) #[true, true, true, true, false, false, false, true, false, true, false, false, false, false, false] rfl rfl (take_ofW HT_.out HW_.out (by kernel_rfl)) (fun _ _ _ h => h) (Or.inl ⟨by rfl, ?_⟩) hHeld ?_ ?_
       rotate_left
       ·rintro w' ⟨s0, s1⟩
        go_simp
        with_reducible rfl
       rotate_left
       ·simp only [Act.put, List.setIfInBounds_toArray, List.set_cons_zero, List.set_cons_succ, i64_w, i32_w]
        rfl
       refine take_ (i := 8) (N := some 45) (v := ?_) (a' := ?_) #[true, true, true, true, false, false, false, true, true, true, false, false, false, false, false] rfl rfl (take_ofW HT_.out HW_.out (by kernel_rfl)) (fun _ _ _ h => h) (Or.inl ⟨by rfl, ?_⟩) hHeld ?_ ?_
       rotate_left
       ·rintro w' ⟨s0, s1⟩
        go_simp
        with_reducible rfl
       rotate_left
       ·simp only [Act.put, List.setIfInBounds_toArray, List.set_cons_zero, List.set_cons_succ, i64_w, i32_w]
        rfl
       refine take_ (i := 10) (N := some 47) (v := ?_) (a' := ?_) #[true, true, true, true, false, false, false, true, true, true, true, false, false, false, false] rfl rfl (take_ofW HT_.out HW_.out (by kernel_rfl)) (fun _ _ _ h => h) (Or.inl ⟨by rfl, ?_⟩) hHeld ?_ ?_
       rotate_left
       ·rintro w' ⟨s0, s1⟩
        go_simp
        with_reducible rfl
       rotate_left
       ·simp only [Act.put, List.setIfInBounds_toArray, List.set_cons_zero, List.set_cons_succ, i64_w, i32_w]
        rfl
       refine oN 4 41 #[true, true, true, true, true, false, false, true, true, true, true, false, false, false, false] HT_ (fun K hK => ?_)
       refine gS Try.func103 #[.int .i64 t381, .int .i64 t381, .int .i64 2] ?_
       with_reducible refine (impl_row.calls k t381 t381 2 t384 t385 _ A26.out).mono ?_
       rintro e w36 ⟨rfl, hb⟩
       refine ⟨_, rfl, ?_⟩
       replace BK373 := bb (bk BK373) hb
       replace BK383 := bb (bk BK383) hb
       replace HB := hbb (hzs HB) hb
       clear hb
       refine hK.out _ _ ⟨cw0 BK383, cw1 BK383⟩ (fun hHeld => ?_)
       clear hK K
       refine nP ?_
       refine pU 5 42 #[true, true, true, true, true, true, false, true, true, true, true, false, false, false, false] HT_ ?_
       refine pU 6 43 #[true, true, true, true, true, true, true, true, true, true, true, false, false, false, false] HT_ ?_
       refine oN 11 48 #[true, true, true, true, true, true, true, true, true, true, true, true, false, false, false] HT_ (fun K hK => ?_)
       refine gS Try.func103 #[.int .i64 t382, .int .i64 t382, .int .i64 2] ?_
       with_reducible refine (impl_row.calls k t382 t382 2 t386 t387 _ A28.out).mono ?_
       rintro e w37 ⟨rfl, hb⟩
       refine ⟨_, rfl, ?_⟩
       replace BK373 := bb (bk BK373) hb
       replace BK383 := bb (bk BK383) hb
       replace HB := hbb (hzs HB) hb
       clear hb
       refine hK.out _ _ ⟨cw0 BK383, cw1 BK383⟩ (fun hHeld => ?_)
       clear hK K
       refine nP ?_
       refine pU 12 49 #[true, true, true, true, true, true, true, true, true, true, true, true, true, false, false] HT_ ?_
       refine pU 13 50 #[true, true, true, true, true, true, true, true, true, true, true, true, true, true, false] HT_ ?_
       refine one_ (i := 14) (N := none) #[true, true, true, true, true, true, true, true, true, true, true, true, true, true, true] rfl rfl (one_of HT_.out (by kernel_rfl)) (by decide) (fun K hK => ?_)
       have hs38 : w37.cell? ⟨gb373, 0, none⟩ = some (.int .i64 0) := (blk_cell BK373.out 0).trans rfl
       have hfs38 := blk_frozen BK373.out 0
       have hns38_1 := NB383_373.out
       have hms38_1 := NB373_383.out
       have hs39 : w37.cell? ⟨gb373, 1, none⟩ = some (.int .i64 0) := (blk_cell BK373.out 1).trans rfl
       have hfs39 := blk_frozen BK373.out 1
       have hns39_1 := NB383_373.out
       have hms39_1 := NB373_383.out
       refine skip_ (w1 := ?_) (by rfl) rfl ?_ ?_
       rotate_left
       ·go_simp
        rfl
       refine hK.out _ _ ⟨((cell_far (p := ⟨gb373, _, none⟩) NB383_373.out _).trans (((cell_far (p := ⟨gb373, _, none⟩) NB383_373.out _).trans (hHeld.1)))), ((cell_far (p := ⟨gb373, _, none⟩) NB383_373.out _).trans (((cell_far (p := ⟨gb373, _, none⟩) NB383_373.out _).trans (hHeld.2))))⟩ (fun hHeld => ?_)
       clear hK K
       refine done_ (done_of HT_.out (by kernel_rfl)) ?_
       try go_wp2
       refine bodyPost_ret (results_cell_row rfl _ _ gb373 31 #[.int .i64 ji27, .int .i64 t387] (0, 0) _ rfl (bkp BK373) Try.underlying31 rfl (by kernel_rfl)) rfl ?_
       exact ⟨by first | rfl | (simp [errW_none, errW_some] <;> rfl) | (simp only [← hji27]; first | rfl | (simp [errW_none, errW_some] <;> rfl)) | (simp [*, errW_none, errW_some] <;> rfl), hzs HB⟩
      ·rw [if_neg c24] at H
       have c24b0 : decide (t374 ≤ 32400000) = false := decide_eq_false c24
       clear c24
       replace H := Option.bind_eq_some_iff.mp H
       obtain ⟨⟨t388, t389⟩, A400, H⟩ := H
       try dsimp only at H
       have A40 := Aside0.mk A400
       clear A400
       replace H := Option.bind_eq_some_iff.mp H
       obtain ⟨⟨t391, t392⟩, A410, H⟩ := H
       try dsimp only at H
       have A41 := Aside0.mk A410
       clear A410
       replace H := Option.bind_eq_some_iff.mp H
       obtain ⟨⟨t393, t394⟩, A420, H⟩ := H
       try dsimp only at H
       have A42 := Aside0.mk A420
       clear A420
       obtain ⟨ji43, hji43⟩ : ∃ j_ : Int, (mn 1000000000 t394) = j_ := ⟨_, rfl⟩
       first | rw [hji43] at H | simp only [hji43] at H
       (try rw [hji43] at A2)
       (try rw [hji43] at A40)
       (try rw [hji43] at A41)
       (try rw [hji43] at A42)
       (try (have hji43h : ji43 ≤ 1000000000 := by (rw [← hji43]; unfold mn; (repeat' split) <;> omega)))
       (try (have hji43g : ji43 ≤ 64 := by omega))
       have hji43_ : (if t394 < 1000000000 then t394 else 1000000000) = ji43 := hji43
       simp only [Option.some.injEq, Prod.mk.injEq] at H
       obtain ⟨rfl, rfl⟩ := H
       go_enter Try.func90, Try.ntmps90
       try go_wp2_with (first | ((with_reducible refine gate_dst (N := 2) rfl ?_); refine bE 2 #[.int .i64 0, .int .i64 0] 31 ?_; intro gb373 hg w44 hbox hb; have BK373 := Aside0.mk (hbox); have GE373 := gw hg (hz0 HB); have GW373 := GE373; replace HB := hbb (hz0 HB) hb; clear hb hbox hg) | ((with_reducible refine gate_callee (f := 101) rfl ?_); refine gL 6 Try.func101 #[.int .i64 a0, .int .i64 259200000] ?_; (with_reducible refine (impl_modulo.calls a0 259200000 t374 _ A2.out).mono ?_); rintro e w' ⟨rfl, ⟨nd, rfl⟩⟩; refine ⟨_, rfl, ?_⟩; (try (rw [drewN_self w44]; generalize hq_ : World.drewN w44 _ = w44; have n0_ : Aside0 (w44.heap[gb373]? = some (.cells #[.int .i64 0, .int .i64 0] 31 (0, 0))) := ⟨by rw [← hq_]; exact (bk BK373)⟩; have n1_ : Aside0 (Below w.heap.size w w44) := ⟨by rw [← hq_]; exact (hzs HB)⟩; clear BK373 HB hq_; have BK373 := n0_; have HB := n1_; clear n0_ n1_))) | ((with_reducible refine gate_callee (f := 102) rfl ?_); refine gL 53 Try.func102 #[.int .i64 (wrap64 (64800000 - t374))] ?_; (with_reducible refine (impl_arc.calls (wrap64 (64800000 - t374)) t388 t389 _ A40.out).mono ?_); rintro e w45 ⟨rfl, hb⟩; refine ⟨_, rfl, ?_⟩; replace BK373 := bb (bk BK373) hb; replace HB := hbb (hzs HB) hb; clear hb) | ((with_reducible refine gate_dst (N := 4) rfl ?_); refine bE 4 #[.int .i64 0, .int .i64 0] 31 ?_; intro gb390 hg w46 hbox hb; have BK390 := Aside0.mk (hbox); have GE390 := gw hg (hzs HB); have NB373_390 := nl hg (bk BK373); have NB390_373 := ng hg (bk BK373); replace BK373 := bb (bk BK373) hb; replace HB := hbb (hzs HB) hb; clear hb hbox hg; have hnb47 := NB390_373.out; have hnc47 := NB373_390.out; obtain ⟨hcz48_0, hcz48_1, hfz48_0, hfz48_1⟩ := cz2 BK390))
       have n0_ : Aside0 (((w46.setCell ⟨gb390, 0, none⟩ (.int .i64 t388)).setCell ⟨gb390, 1, none⟩ (.int .i64 t389)).heap[gb373]? = some (.cells #[.int .i64 0, .int .i64 0] 31 (0, 0))) := ⟨bk1 BK373 NB373_390⟩
       have n1_ : Aside0 (((w46.setCell ⟨gb390, 0, none⟩ (.int .i64 t388)).setCell ⟨gb390, 1, none⟩ (.int .i64 t389)).heap[gb390]? = some (.cells #[.int .i64 t388, .int .i64 t389] 31 (0, 0))) := ⟨bkp BK390⟩
       have n2_ : Aside0 (Below w.heap.size w ((w46.setCell ⟨gb390, 0, none⟩ (.int .i64 t388)).setCell ⟨gb390, 1, none⟩ (.int .i64 t389))) := ⟨hzs HB⟩
       (try clear BK373)
       (try clear BK390)
       (try clear HB)
       generalize ((w46.setCell ⟨gb390, 0, none⟩ (.int .i64 t388)).setCell ⟨gb390, 1, none⟩ (.int .i64 t389)) = w49 at n0_ n1_ n2_ ⊢
       have BK373 := n0_
       have BK390 := n1_
       have HB := n2_
       clear n0_ n1_ n2_
       replace BK373 := Aside0.mk (blk_drew BK373.out)
       replace BK390 := Aside0.mk (blk_drew BK390.out)
       replace HB := Aside0.mk (below_drew1 HB.out)
       refine start_ (n := 11) (S := fun w' => w'.cell? ⟨gb390, 0, none⟩ = some (.int .i64 t388) ∧ w'.cell? ⟨gb390, 1, none⟩ = some (.int .i64 t389)) (ds := []) #[false, false, false, false, false, false, false, false, false, false, false] (by kernel_rfl) rfl rfl ⟨cw0 BK390, cw1 BK390⟩ (fun hHeld => ?_); refine with_tabW impl_sine.tab16 impl_sine.bits16 (fun HT_ HW_ => ?_)
       generalize w49.drew = w50 at BK373 BK390 HB hHeld ⊢
       refine pU 0 54 #[true, false, false, false, false, false, false, false, false, false, false] HT_ ?_
       refine pU 4 58 #[true, false, false, false, true, false, false, false, false, false, false] HT_ ?_
       refine take_ (i := 1) (N := some 55) (v := ?_) (a' := ?_) #[true, true, false, false, true, false, false, false, false, false, false] rfl rfl (take_ofW HT_.out HW_.out (by kernel_rfl)) (fun _ _ _ h => h) (Or.inl ⟨by rfl, ?_⟩) hHeld ?_ ?_
       rotate_left
       ·rintro w' ⟨s0, s1⟩
        go_simp
        with_reducible rfl
       rotate_left
       ·simp only [Act.put, List.setIfInBounds_toArray, List.set_cons_zero, List.set_cons_succ, i64_w, i32_w]
        rfl
       refine take_ (i := 5) (N := some 59) (v := ?_) (a' := ?_) #[true, true, false, false, true, true, false, false, false, false, false] rfl rfl (take_ofW HT_.out HW_.out (by kernel_rfl)) (fun _ _ _ h => h) (Or.inl ⟨by rfl, ?_⟩) hHeld ?_ ?_
       rotate_left
       ·rintro w' ⟨s0, s1⟩
        go_simp
        with_reducible rfl
       rotate_left
       ·simp only [Act.put, List.setIfInBounds_toArray, List.set_cons_zero, List.set_cons_succ, i64_w, i32_w]
        rfl
       refine oN 2 56 #[true, true, true, false, true, true, false, false, false, false, false] HT_ (fun K hK => ?_)
       refine gS Try.func103 #[.int .i64 1000000000, .int .i64 t389, .int .i64 1] ?_
       with_reducible refine (impl_row.calls k 1000000000 t389 1 t391 t392 _ A41.out).mono ?_
       rintro e w51 ⟨rfl, hb⟩
       refine ⟨_, rfl, ?_⟩
       replace BK373 := bb (bk BK373) hb
       replace BK390 := bb (bk BK390) hb
       replace HB := hbb (hzs HB) hb
       clear hb
       refine hK.out _ _ ⟨cw0 BK390, cw1 BK390⟩ (fun hHeld => ?_)
       clear hK K
       refine nP ?_
       refine pU 3 57 #[true, true, true, true, true, true, false, false, false, false, false] HT_ ?_
       refine oN 6 60 #[true, true, true, true, true, true, true, false, false, false, false] HT_ (fun K hK => ?_)
       refine gS Try.func103 #[.int .i64 1000000000, .int .i64 t388, .int .i64 1] ?_
       with_reducible refine (impl_row.calls k 1000000000 t388 1 t393 t394 _ A42.out).mono ?_
       rintro e w52 ⟨rfl, hb⟩
       refine ⟨_, rfl, ?_⟩
       replace BK373 := bb (bk BK373) hb
       replace BK390 := bb (bk BK390) hb
       replace HB := hbb (hzs HB) hb
       clear hb
       refine hK.out _ _ ⟨cw0 BK390, cw1 BK390⟩ (fun hHeld => ?_)
       clear hK K
       refine nP ?_
       refine pU 7 61 #[true, true, true, true, true, true, true, true, false, false, false] HT_ ?_
       refine pU 8 62 #[true, true, true, true, true, true, true, true, true, false, false] HT_ ?_
       refine pU 9 63 #[true, true, true, true, true, true, true, true, true, true, false] HT_ ?_
       refine one_ (i := 10) (N := none) #[true, true, true, true, true, true, true, true, true, true, true] rfl rfl (one_of HT_.out (by kernel_rfl)) (by decide) (fun K hK => ?_)
       have hs53 : w52.cell? ⟨gb373, 0, none⟩ = some (.int .i64 0) := (blk_cell BK373.out 0).trans rfl
       have hfs53 := blk_frozen BK373.out 0
       have hns53_1 := NB390_373.out
       have hms53_1 := NB373_390.out
       have hs54 : w52.cell? ⟨gb373, 1, none⟩ = some (.int .i64 0) := (blk_cell BK373.out 1).trans rfl
       have hfs54 := blk_frozen BK373.out 1
       have hns54_1 := NB390_373.out
       have hms54_1 := NB373_390.out
       refine skip_ (w1 := ?_) (by rfl) rfl ?_ ?_
       rotate_left
       ·go_simp
        rfl
       refine hK.out _ _ ⟨((cell_far (p := ⟨gb373, _, none⟩) NB390_373.out _).trans (((cell_far (p := ⟨gb373, _, none⟩) NB390_373.out _).trans (hHeld.1)))), ((cell_far (p := ⟨gb373, _, none⟩) NB390_373.out _).trans (((cell_far (p := ⟨gb373, _, none⟩) NB390_373.out _).trans (hHeld.2))))⟩ (fun hHeld => ?_)
       clear hK K
       refine done_ (done_of HT_.out (by kernel_rfl)) ?_
       try go_wp2
       refine bodyPost_ret (results_cell_row rfl _ _ gb373 31 #[.int .i64 t391, .int .i64 ji43] (0, 0) _ rfl (bkp BK373) Try.underlying31 rfl (by kernel_rfl)) rfl ?_
       exact ⟨by first | rfl | (simp [errW_none, errW_some] <;> rfl) | (simp only [← hji43]; first | rfl | (simp [errW_none, errW_some] <;> rfl)) | (simp [*, errW_none, errW_some] <;> rfl), hzs HB⟩


/-! ### impl_SineOf: function 61 -/
def impl_SineOf.f (k : Nat) (a0 : Int) : Option (Int × Int × Bool) := (impl_isAngle.f a0).bind fun t396 => (if t396 = true then ((impl_sine.f k (wrap64 (2 * a0))).bind fun bt397 => (some (bt397.1, bt397.2, true))) else (some (0, 0, false)))
set_option maxHeartbeats 8000000 in
set_option maxRecDepth 100000 in
theorem impl_SineOf.calls (k : Nat) (a0 : Int) (r1 : Int) (r2 : Int) (r3 : Bool) (w : World) (h : impl_SineOf.f k a0 = some (r1, r2, r3)) :
  Calls Try.prog 61 #[.int .i64 a0] w fun e w' => e = .returned (.tuple #[.agg #[.int .i64 r1, .int .i64 r2], .bool r3]) ∧ Below w.heap.size w w' := by
 have hu31 := Try.underlying31
 have HB := Aside0.mk (Below.refl w.heap.size w)
 have H := h
 clear h
 unfold impl_SineOf.f at H
 replace H := Option.bind_eq_some_iff.mp H
 obtain ⟨t396, A20, H⟩ := H
 try dsimp only at H
 have A2 := Aside0.mk A20
 clear A20
 by_cases c3 : t396 = true
 ·subst c3
  rw [if_pos rfl] at H
  replace H := Option.bind_eq_some_iff.mp H
  obtain ⟨⟨t397, t398⟩, A40, H⟩ := H
  try dsimp only at H
  have A4 := Aside0.mk A40
  clear A40
  simp only [Option.some.injEq, Prod.mk.injEq] at H
  obtain ⟨rfl, rfl, rfl⟩ := H
  go_enter Try.func61, Try.ntmps61
  go_wp2_with (first | ((with_reducible refine gate_dst (N := 2) rfl ?_); refine bE 2 #[.int .i64 0, .int .i64 0] 31 ?_; intro gb395 hg w5 hbox hb; have BK395 := Aside0.mk (hbox); have GE395 := gw hg (hz0 HB); have GW395 := GE395; replace HB := hbb (hz0 HB) hb; clear hb hbox hg) | ((with_reducible refine gate_callee (f := 89) rfl ?_); refine gL 5 Try.func89 #[.int .i64 a0] ?_; (with_reducible refine (impl_isAngle.calls a0 true _ A2.out).mono ?_); rintro e w' ⟨rfl, ⟨nd, rfl⟩⟩; refine ⟨_, rfl, ?_⟩; (try (rw [drewN_self w5]; generalize hq_ : World.drewN w5 _ = w5; have n0_ : Aside0 (w5.heap[gb395]? = some (.cells #[.int .i64 0, .int .i64 0] 31 (0, 0))) := ⟨by rw [← hq_]; exact (bk BK395)⟩; have n1_ : Aside0 (Below w.heap.size w w5) := ⟨by rw [← hq_]; exact (hzs HB)⟩; clear BK395 HB hq_; have BK395 := n0_; have HB := n1_; clear n0_ n1_))) | ((with_reducible refine gate_callee (f := 90) rfl ?_); refine gL 10 Try.func90 #[.int .i64 (wrap64 (2 * a0))] ?_; (with_reducible refine (impl_sine.calls k (wrap64 (2 * a0)) t397 t398 _ A4.out).mono ?_); rintro e w6 ⟨rfl, hb⟩; refine ⟨_, rfl, ?_⟩; replace BK395 := bb (bk BK395) hb; replace HB := hbb (hzs HB) hb; clear hb; obtain ⟨hcz7_0, hcz7_1, hfz7_0, hfz7_1⟩ := cz2 BK395))
  refine bodyPost_ret (results_ct rfl _ _ gb395 31 #[.int .i64 t397, .int .i64 t398] (0, 0) _ rfl (bkp BK395) Try.underlying31 rfl (by kernel_rfl)) rfl ?_
  exact ⟨by first | rfl | (simp [errW_none, errW_some] <;> rfl) | (simp [*, errW_none, errW_some] <;> rfl), hzs HB⟩
 ·replace c3 := Bool.eq_false_iff.mpr c3
  subst c3
  rw [if_neg (show ¬ (false = true) by decide)] at H
  simp only [Option.some.injEq, Prod.mk.injEq] at H
  obtain ⟨rfl, rfl, rfl⟩ := H
  go_enter Try.func61, Try.ntmps61
  go_wp2_with (first | ((with_reducible refine gate_dst (N := 2) rfl ?_); refine bE 2 #[.int .i64 0, .int .i64 0] 31 ?_; intro gb395 hg w8 hbox hb; have BK395 := Aside0.mk (hbox); have GE395 := gw hg (hz0 HB); have GW395 := GE395; replace HB := hbb (hz0 HB) hb; clear hb hbox hg) | ((with_reducible refine gate_callee (f := 89) rfl ?_); refine gL 5 Try.func89 #[.int .i64 a0] ?_; (with_reducible refine (impl_isAngle.calls a0 false _ A2.out).mono ?_); rintro e w' ⟨rfl, ⟨nd, rfl⟩⟩; refine ⟨_, rfl, ?_⟩; (try (rw [drewN_self w8]; generalize hq_ : World.drewN w8 _ = w8; have n0_ : Aside0 (w8.heap[gb395]? = some (.cells #[.int .i64 0, .int .i64 0] 31 (0, 0))) := ⟨by rw [← hq_]; exact (bk BK395)⟩; have n1_ : Aside0 (Below w.heap.size w w8) := ⟨by rw [← hq_]; exact (hzs HB)⟩; clear BK395 HB hq_; have BK395 := n0_; have HB := n1_; clear n0_ n1_)); obtain ⟨hcz9_0, hcz9_1, hfz9_0, hfz9_1⟩ := cz2 BK395))
  refine bodyPost_ret (results_ct rfl _ _ gb395 31 #[.int .i64 0, .int .i64 0] (0, 0) _ rfl (bkp BK395) Try.underlying31 rfl (by kernel_rfl)) rfl ?_
  exact ⟨by first | rfl | (simp [errW_none, errW_some] <;> rfl) | (simp [*, errW_none, errW_some] <;> rfl), hzs HB⟩


end Go.Proofs.Ytlodpfddimeffaa.M
