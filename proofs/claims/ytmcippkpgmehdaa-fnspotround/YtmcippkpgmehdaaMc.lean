import Derived.Test.YtmcippkpgmehdaaM0
import Derived.Test.YtmcippkpgmehdaaMa
import Derived.Test.YtmcippkpgmehdaaMb
namespace Go.Proofs.Ytmcippkpgmehdaa.M
open Go.RowKit Go.Proofs.YtmcippkpgmehdaaW.PrintWords Go.Proofs.YtmcippkpgmehdaaW.PrintLast Go.Proofs.YtmcippkpgmehdaaW.PrintMore
attribute [local go_sem] max2_int min2_int max_two min_two max_three min_three max_four min_four
attribute [local go_sem high] eqA42 eqA29 eqA24
attribute [local go_sem] fld42_0 fld42_1 fld29_0 fld29_1 fld24_0 fld24_1 fld38_0 fld38_1 fld88_0 fld88_1 fld88_2 fld88_3 fld88_4
set_option linter.unusedVariables false
set_option linter.unusedSimpArgs false

/-! ### impl_sine: function 76 -/
def impl_sine.f : Nat → Int → Option (Int × Int)
 | 0, _ => none
 | k + 1, a0 => (impl_modulo.f a0 259200000).bind fun t274 => (if t274 ≥ 129600000 then ((impl_sine.f k (wrap64 (t274 - 129600000))).bind fun bt275 => ((impl_SpanNeg.f bt275.1 bt275.2).bind fun bt277 => (some (bt277.1, bt277.2)))) else (if t274 > 64800000 then ((impl_sine.f k (wrap64 (129600000 - t274))).bind fun bt279 => (some (bt279.1, bt279.2))) else (if t274 = 0 then (some (0, 0)) else (if t274 = 21600000 then (some (500000000, 500000000)) else (if t274 = 64800000 then (some (1000000000, 1000000000)) else (if t274 ≤ 32400000 then ((impl_arc.f t274).bind fun bt281 => ((impl_row.f k bt281.1 bt281.1 2).bind fun bt284 => ((impl_row.f k bt281.2 bt281.2 2).bind fun bt286 => (some (mx 0 bt284.1, bt286.2))))) else ((impl_arc.f (wrap64 (64800000 - t274))).bind fun bt288 => ((impl_row.f k 1000000000 bt288.2 1).bind fun bt291 => ((impl_row.f k 1000000000 bt288.1 1).bind fun bt293 => (some (bt291.1, mn 1000000000 bt293.2)))))))))))
def impl_sine.T14 : Bool × List (List Nat × List Nat) := (true, [([], []), ([0], [0]), ([], []), ([2], [2]), ([1, 3], [1, 3]), ([4], [4]), ([5], [5]), ([], []), ([7], [7]), ([], []), ([9], [9]), ([8, 10, 4], [8, 10]), ([11], [11]), ([6, 12], [6, 12]), ([13, 11, 0, 1, 2, 3, 4, 5, 6, 7, 8, 9, 10, 11, 12, 13], [13])])
def impl_sine.B14 : List Nat := [0, 1, 0, 4, 15, 31, 63, 0, 128, 0, 512, 1951, 3999, 8191, 16383]
theorem impl_sine.tab14 : rtab .any (opsOf Try.f76 14) = impl_sine.T14 := by kernel_rfl
theorem impl_sine.bits14 : waitsOk impl_sine.T14.2 impl_sine.B14 = true := by kernel_rfl
def impl_sine.T16 : Bool × List (List Nat × List Nat) := (true, [([], []), ([0], [0]), ([1], [1]), ([2], [2]), ([], []), ([4], [4]), ([5, 2], [5]), ([6], [6]), ([7], [7]), ([3, 8], [3, 8]), ([9, 6, 0, 1, 2, 3, 4, 5, 6, 7, 8, 9], [9])])
def impl_sine.B16 : List Nat := [0, 1, 3, 7, 0, 16, 55, 119, 247, 511, 1023]
theorem impl_sine.tab16 : rtab .any (opsOf Try.f76 16) = impl_sine.T16 := by kernel_rfl
theorem impl_sine.bits16 : waitsOk impl_sine.T16.2 impl_sine.B16 = true := by kernel_rfl
set_option maxHeartbeats 8000000 in
set_option maxRecDepth 100000 in
theorem impl_sine.calls (k : Nat) : ∀ (a0 : Int) (r1 : Int) (r2 : Int) (w : World) (h : impl_sine.f k a0 = some (r1, r2)),
  Calls Try.prog 76 #[.int .i64 a0] w fun e w' => e = .returned (.agg #[.int .i64 r1, .int .i64 r2]) ∧ Below w.heap.size w w' := by
 induction k using Nat.strongRecOn with
 | _ k ih =>
 intro a0 r1 r2 w h
 cases k with
 | zero => exact absurd h (by simp [impl_sine.f])
 | succ k =>
 simp only [impl_sine.f] at h
 have hu42 := Try.underlying42
 have HB := Aside0.mk (Below.refl w.heap.size w)
 have H : ((impl_modulo.f a0 259200000).bind fun t274 => (if t274 ≥ 129600000 then ((impl_sine.f k (wrap64 (t274 - 129600000))).bind fun bt275 => ((impl_SpanNeg.f bt275.1 bt275.2).bind fun bt277 => (some (bt277.1, bt277.2)))) else (if t274 > 64800000 then ((impl_sine.f k (wrap64 (129600000 - t274))).bind fun bt279 => (some (bt279.1, bt279.2))) else (if t274 = 0 then (some (0, 0)) else (if t274 = 21600000 then (some (500000000, 500000000)) else (if t274 = 64800000 then (some (1000000000, 1000000000)) else (if t274 ≤ 32400000 then ((impl_arc.f t274).bind fun bt281 => ((impl_row.f k bt281.1 bt281.1 2).bind fun bt284 => ((impl_row.f k bt281.2 bt281.2 2).bind fun bt286 => (some (mx 0 bt284.1, bt286.2))))) else ((impl_arc.f (wrap64 (64800000 - t274))).bind fun bt288 => ((impl_row.f k 1000000000 bt288.2 1).bind fun bt291 => ((impl_row.f k 1000000000 bt288.1 1).bind fun bt293 => (some (bt291.1, mn 1000000000 bt293.2)))))))))))) = some (r1, r2) := h
 clear h
 replace H := Option.bind_eq_some_iff.mp H
 obtain ⟨t274, A20, H⟩ := H
 try dsimp only at H
 have A2 := Aside0.mk A20
 clear A20
 by_cases c3 : t274 ≥ 129600000
 ·rw [if_pos c3] at H
  have c3b0 : decide (129600000 ≤ t274) = true := decide_eq_true c3
  clear c3
  replace H := Option.bind_eq_some_iff.mp H
  obtain ⟨⟨t275, t276⟩, A40, H⟩ := H
  try dsimp only at H
  have A4 := Aside0.mk A40
  clear A40
  replace H := Option.bind_eq_some_iff.mp H
  obtain ⟨⟨t277, t278⟩, A50, H⟩ := H
  try dsimp only at H
  have A5 := Aside0.mk A50
  clear A50
  simp only [Option.some.injEq, Prod.mk.injEq] at H
  obtain ⟨rfl, rfl⟩ := H
  go_enter Try.func76, Try.ntmps76
  go_wp2_with (first | ((with_reducible refine gate_dst (N := 2) rfl ?_); refine bE 2 #[.int .i64 0, .int .i64 0] 42 ?_; intro gb273 hg w6 hbox hb; have BK273 := Aside0.mk (hbox); have GE273 := gw hg (hz0 HB); have GW273 := GE273; replace HB := hbb (hz0 HB) hb; clear hb hbox hg) | ((with_reducible refine gate_callee (f := 45) rfl ?_); refine gL 6 Try.func45 #[.int .i64 a0, .int .i64 259200000] ?_; (with_reducible refine (impl_modulo.calls a0 259200000 t274 _ A2.out).mono ?_); rintro e w' ⟨rfl, ⟨nd, rfl⟩⟩; refine ⟨_, rfl, ?_⟩; (try (rw [drewN_self w6]; generalize hq_ : World.drewN w6 _ = w6; have n0_ : Aside0 (w6.heap[gb273]? = some (.cells #[.int .i64 0, .int .i64 0] 42 (0, 0))) := ⟨by rw [← hq_]; exact (bk BK273)⟩; have n1_ : Aside0 (Below w.heap.size w w6) := ⟨by rw [← hq_]; exact (hzs HB)⟩; clear BK273 HB hq_; have BK273 := n0_; have HB := n1_; clear n0_ n1_))) | ((with_reducible refine gate_callee (f := 76) rfl ?_); refine gL 12 Try.func76 #[.int .i64 (wrap64 (t274 - 129600000))] ?_; (with_reducible refine (ih k (by omega) (wrap64 (t274 - 129600000)) t275 t276 _ A4.out).mono ?_); rintro e w7 ⟨rfl, hb⟩; refine ⟨_, rfl, ?_⟩; replace BK273 := bb (bk BK273) hb; replace HB := hbb (hzs HB) hb; clear hb) | ((with_reducible refine gate_callee (f := 97) rfl ?_); refine gL 13 Try.func97 #[.agg #[.int .i64 t275, .int .i64 t276]] ?_; (with_reducible refine (impl_SpanNeg.calls t275 t276 t277 t278 _ A5.out).mono ?_); rintro e w8 ⟨rfl, hb⟩; refine ⟨_, rfl, ?_⟩; replace BK273 := bb (bk BK273) hb; replace HB := hbb (hzs HB) hb; clear hb; obtain ⟨hcz9_0, hcz9_1, hfz9_0, hfz9_1⟩ := cz2 BK273))
  refine bodyPost_ret (results_cell_row rfl _ _ gb273 42 #[.int .i64 t277, .int .i64 t278] (0, 0) _ rfl (bkp BK273) Try.underlying42 rfl (by kernel_rfl)) rfl ?_
  exact ⟨by first | rfl | (simp [errW_none, errW_some] <;> rfl) | (simp [*, errW_none, errW_some] <;> rfl), hzs HB⟩
 ·rw [if_neg c3] at H
  have c3b0 : decide (129600000 ≤ t274) = false := decide_eq_false c3
  clear c3
  by_cases c10 : t274 > 64800000
  ·rw [if_pos c10] at H
   have c10b0 : decide (64800000 < t274) = true := decide_eq_true c10
   clear c10
   replace H := Option.bind_eq_some_iff.mp H
   obtain ⟨⟨t279, t280⟩, A110, H⟩ := H
   try dsimp only at H
   have A11 := Aside0.mk A110
   clear A110
   simp only [Option.some.injEq, Prod.mk.injEq] at H
   obtain ⟨rfl, rfl⟩ := H
   go_enter Try.func76, Try.ntmps76
   go_wp2_with (first | ((with_reducible refine gate_dst (N := 2) rfl ?_); refine bE 2 #[.int .i64 0, .int .i64 0] 42 ?_; intro gb273 hg w12 hbox hb; have BK273 := Aside0.mk (hbox); have GE273 := gw hg (hz0 HB); have GW273 := GE273; replace HB := hbb (hz0 HB) hb; clear hb hbox hg) | ((with_reducible refine gate_callee (f := 45) rfl ?_); refine gL 6 Try.func45 #[.int .i64 a0, .int .i64 259200000] ?_; (with_reducible refine (impl_modulo.calls a0 259200000 t274 _ A2.out).mono ?_); rintro e w' ⟨rfl, ⟨nd, rfl⟩⟩; refine ⟨_, rfl, ?_⟩; (try (rw [drewN_self w12]; generalize hq_ : World.drewN w12 _ = w12; have n0_ : Aside0 (w12.heap[gb273]? = some (.cells #[.int .i64 0, .int .i64 0] 42 (0, 0))) := ⟨by rw [← hq_]; exact (bk BK273)⟩; have n1_ : Aside0 (Below w.heap.size w w12) := ⟨by rw [← hq_]; exact (hzs HB)⟩; clear BK273 HB hq_; have BK273 := n0_; have HB := n1_; clear n0_ n1_))) | ((with_reducible refine gate_callee (f := 76) rfl ?_); refine gL 19 Try.func76 #[.int .i64 (wrap64 (129600000 - t274))] ?_; (with_reducible refine (ih k (by omega) (wrap64 (129600000 - t274)) t279 t280 _ A11.out).mono ?_); rintro e w13 ⟨rfl, hb⟩; refine ⟨_, rfl, ?_⟩; replace BK273 := bb (bk BK273) hb; replace HB := hbb (hzs HB) hb; clear hb; obtain ⟨hcz14_0, hcz14_1, hfz14_0, hfz14_1⟩ := cz2 BK273))
   refine bodyPost_ret (results_cell_row rfl _ _ gb273 42 #[.int .i64 t279, .int .i64 t280] (0, 0) _ rfl (bkp BK273) Try.underlying42 rfl (by kernel_rfl)) rfl ?_
   exact ⟨by first | rfl | (simp [errW_none, errW_some] <;> rfl) | (simp [*, errW_none, errW_some] <;> rfl), hzs HB⟩
  ·rw [if_neg c10] at H
   have c10b0 : decide (64800000 < t274) = false := decide_eq_false c10
   clear c10
   by_cases c15 : t274 = 0
   ·rw [if_pos c15] at H
    have c15b0 : (t274 == 0) = true := beq_iff_eq.mpr c15
    have c15b1 : (t274 != 0) = false := bne_eq_false_iff_eq.mpr c15
    clear c15
    simp only [Option.some.injEq, Prod.mk.injEq] at H
    obtain ⟨rfl, rfl⟩ := H
    go_enter Try.func76, Try.ntmps76
    go_wp2_with (first | ((with_reducible refine gate_dst (N := 2) rfl ?_); refine bE 2 #[.int .i64 0, .int .i64 0] 42 ?_; intro gb273 hg w16 hbox hb; have BK273 := Aside0.mk (hbox); have GE273 := gw hg (hz0 HB); have GW273 := GE273; replace HB := hbb (hz0 HB) hb; clear hb hbox hg) | ((with_reducible refine gate_callee (f := 45) rfl ?_); refine gL 6 Try.func45 #[.int .i64 a0, .int .i64 259200000] ?_; (with_reducible refine (impl_modulo.calls a0 259200000 t274 _ A2.out).mono ?_); rintro e w' ⟨rfl, ⟨nd, rfl⟩⟩; refine ⟨_, rfl, ?_⟩; (try (rw [drewN_self w16]; generalize hq_ : World.drewN w16 _ = w16; have n0_ : Aside0 (w16.heap[gb273]? = some (.cells #[.int .i64 0, .int .i64 0] 42 (0, 0))) := ⟨by rw [← hq_]; exact (bk BK273)⟩; have n1_ : Aside0 (Below w.heap.size w w16) := ⟨by rw [← hq_]; exact (hzs HB)⟩; clear BK273 HB hq_; have BK273 := n0_; have HB := n1_; clear n0_ n1_)); obtain ⟨hcz17_0, hcz17_1, hfz17_0, hfz17_1⟩ := cz2 BK273))
    refine bodyPost_ret (results_cell_row rfl _ _ gb273 42 #[.int .i64 0, .int .i64 0] (0, 0) _ rfl (bkp BK273) Try.underlying42 rfl (by kernel_rfl)) rfl ?_
    exact ⟨by first | rfl | (simp [errW_none, errW_some] <;> rfl) | (simp [*, errW_none, errW_some] <;> rfl), hzs HB⟩
   ·rw [if_neg c15] at H
    have c15b0 : (t274 == 0) = false := beq_eq_false_iff_ne.mpr c15
    have c15b1 : (t274 != 0) = true := bne_iff_ne.mpr c15
    by_cases c18 : t274 = 21600000
    ·rw [if_pos c18] at H
     have c18b0 : (t274 == 21600000) = true := beq_iff_eq.mpr c18
     have c18b1 : (t274 != 21600000) = false := bne_eq_false_iff_eq.mpr c18
     clear c18
     simp only [Option.some.injEq, Prod.mk.injEq] at H
     obtain ⟨rfl, rfl⟩ := H
     go_enter Try.func76, Try.ntmps76
     go_wp2_with (first | ((with_reducible refine gate_dst (N := 2) rfl ?_); refine bE 2 #[.int .i64 0, .int .i64 0] 42 ?_; intro gb273 hg w19 hbox hb; have BK273 := Aside0.mk (hbox); have GE273 := gw hg (hz0 HB); have GW273 := GE273; replace HB := hbb (hz0 HB) hb; clear hb hbox hg) | ((with_reducible refine gate_callee (f := 45) rfl ?_); refine gL 6 Try.func45 #[.int .i64 a0, .int .i64 259200000] ?_; (with_reducible refine (impl_modulo.calls a0 259200000 t274 _ A2.out).mono ?_); rintro e w' ⟨rfl, ⟨nd, rfl⟩⟩; refine ⟨_, rfl, ?_⟩; (try (rw [drewN_self w19]; generalize hq_ : World.drewN w19 _ = w19; have n0_ : Aside0 (w19.heap[gb273]? = some (.cells #[.int .i64 0, .int .i64 0] 42 (0, 0))) := ⟨by rw [← hq_]; exact (bk BK273)⟩; have n1_ : Aside0 (Below w.heap.size w w19) := ⟨by rw [← hq_]; exact (hzs HB)⟩; clear BK273 HB hq_; have BK273 := n0_; have HB := n1_; clear n0_ n1_)); obtain ⟨hcz20_0, hcz20_1, hfz20_0, hfz20_1⟩ := cz2 BK273))
     refine bodyPost_ret (results_cell_row rfl _ _ gb273 42 #[.int .i64 500000000, .int .i64 500000000] (0, 0) _ rfl (bkp BK273) Try.underlying42 rfl (by kernel_rfl)) rfl ?_
     exact ⟨by first | rfl | (simp [errW_none, errW_some] <;> rfl) | (simp [*, errW_none, errW_some] <;> rfl), hzs HB⟩
    ·rw [if_neg c18] at H
     have c18b0 : (t274 == 21600000) = false := beq_eq_false_iff_ne.mpr c18
     have c18b1 : (t274 != 21600000) = true := bne_iff_ne.mpr c18
     by_cases c21 : t274 = 64800000
     ·rw [if_pos c21] at H
      have c21b0 : (t274 == 64800000) = true := beq_iff_eq.mpr c21
      have c21b1 : (t274 != 64800000) = false := bne_eq_false_iff_eq.mpr c21
      clear c21
      simp only [Option.some.injEq, Prod.mk.injEq] at H
      obtain ⟨rfl, rfl⟩ := H
      go_enter Try.func76, Try.ntmps76
      go_wp2_with (first | ((with_reducible refine gate_dst (N := 2) rfl ?_); refine bE 2 #[.int .i64 0, .int .i64 0] 42 ?_; intro gb273 hg w22 hbox hb; have BK273 := Aside0.mk (hbox); have GE273 := gw hg (hz0 HB); have GW273 := GE273; replace HB := hbb (hz0 HB) hb; clear hb hbox hg) | ((with_reducible refine gate_callee (f := 45) rfl ?_); refine gL 6 Try.func45 #[.int .i64 a0, .int .i64 259200000] ?_; (with_reducible refine (impl_modulo.calls a0 259200000 t274 _ A2.out).mono ?_); rintro e w' ⟨rfl, ⟨nd, rfl⟩⟩; refine ⟨_, rfl, ?_⟩; (try (rw [drewN_self w22]; generalize hq_ : World.drewN w22 _ = w22; have n0_ : Aside0 (w22.heap[gb273]? = some (.cells #[.int .i64 0, .int .i64 0] 42 (0, 0))) := ⟨by rw [← hq_]; exact (bk BK273)⟩; have n1_ : Aside0 (Below w.heap.size w w22) := ⟨by rw [← hq_]; exact (hzs HB)⟩; clear BK273 HB hq_; have BK273 := n0_; have HB := n1_; clear n0_ n1_)); obtain ⟨hcz23_0, hcz23_1, hfz23_0, hfz23_1⟩ := cz2 BK273))
      refine bodyPost_ret (results_cell_row rfl _ _ gb273 42 #[.int .i64 1000000000, .int .i64 1000000000] (0, 0) _ rfl (bkp BK273) Try.underlying42 rfl (by kernel_rfl)) rfl ?_
      exact ⟨by first | rfl | (simp [errW_none, errW_some] <;> rfl) | (simp [*, errW_none, errW_some] <;> rfl), hzs HB⟩
     ·rw [if_neg c21] at H
      have c21b0 : (t274 == 64800000) = false := beq_eq_false_iff_ne.mpr c21
      have c21b1 : (t274 != 64800000) = true := bne_iff_ne.mpr c21
      by_cases c24 : t274 ≤ 32400000
      ·rw [if_pos c24] at H
       have c24b0 : decide (t274 ≤ 32400000) = true := decide_eq_true c24
       clear c24
       replace H := Option.bind_eq_some_iff.mp H
       obtain ⟨⟨t281, t282⟩, A250, H⟩ := H
       try dsimp only at H
       have A25 := Aside0.mk A250
       clear A250
       replace H := Option.bind_eq_some_iff.mp H
       obtain ⟨⟨t284, t285⟩, A260, H⟩ := H
       try dsimp only at H
       have A26 := Aside0.mk A260
       clear A260
       obtain ⟨ji27, hji27⟩ : ∃ j_ : Int, (mx 0 t284) = j_ := ⟨_, rfl⟩
       replace H : ((impl_row.f k t282 t282 2).bind fun bt286 => (some (ji27, bt286.2))) = some (r1, r2) := by first | (rw [hji27] at H; exact H) | (simp only [hji27] at H ⊢; exact H)
       (try rw [hji27] at A2)
       (try rw [hji27] at A25)
       (try rw [hji27] at A26)
       (try (have hji27l : 0 ≤ ji27 := by (rw [← hji27]; unfold mx; (repeat' split) <;> omega)))
       (try (have hji27m : 0 ≤ ji27 := by omega))
       have hji27_ : (if 0 < t284 then t284 else 0) = ji27 := hji27
       replace H := Option.bind_eq_some_iff.mp H
       obtain ⟨⟨t286, t287⟩, A280, H⟩ := H
       try dsimp only at H
       have A28 := Aside0.mk A280
       clear A280
       simp only [Option.some.injEq, Prod.mk.injEq] at H
       obtain ⟨rfl, rfl⟩ := H
       go_enter Try.func76, Try.ntmps76
       try go_wp2_with (first | ((with_reducible refine gate_dst (N := 2) rfl ?_); refine bE 2 #[.int .i64 0, .int .i64 0] 42 ?_; intro gb273 hg w29 hbox hb; have BK273 := Aside0.mk (hbox); have GE273 := gw hg (hz0 HB); have GW273 := GE273; replace HB := hbb (hz0 HB) hb; clear hb hbox hg) | ((with_reducible refine gate_callee (f := 45) rfl ?_); refine gL 6 Try.func45 #[.int .i64 a0, .int .i64 259200000] ?_; (with_reducible refine (impl_modulo.calls a0 259200000 t274 _ A2.out).mono ?_); rintro e w' ⟨rfl, ⟨nd, rfl⟩⟩; refine ⟨_, rfl, ?_⟩; (try (rw [drewN_self w29]; generalize hq_ : World.drewN w29 _ = w29; have n0_ : Aside0 (w29.heap[gb273]? = some (.cells #[.int .i64 0, .int .i64 0] 42 (0, 0))) := ⟨by rw [← hq_]; exact (bk BK273)⟩; have n1_ : Aside0 (Below w.heap.size w w29) := ⟨by rw [← hq_]; exact (hzs HB)⟩; clear BK273 HB hq_; have BK273 := n0_; have HB := n1_; clear n0_ n1_))) | ((with_reducible refine gate_callee (f := 98) rfl ?_); refine gL 36 Try.func98 #[.int .i64 t274] ?_; (with_reducible refine (impl_arc.calls t274 t281 t282 _ A25.out).mono ?_); rintro e w30 ⟨rfl, hb⟩; refine ⟨_, rfl, ?_⟩; replace BK273 := bb (bk BK273) hb; replace HB := hbb (hzs HB) hb; clear hb) | ((with_reducible refine gate_dst (N := 3) rfl ?_); refine bE 3 #[.int .i64 0, .int .i64 0] 42 ?_; intro gb283 hg w31 hbox hb; have BK283 := Aside0.mk (hbox); have GE283 := gw hg (hzs HB); have NB273_283 := nl hg (bk BK273); have NB283_273 := ng hg (bk BK273); replace BK273 := bb (bk BK273) hb; replace HB := hbb (hzs HB) hb; clear hb hbox hg; have hnb32 := NB283_273.out; have hnc32 := NB273_283.out; obtain ⟨hcz33_0, hcz33_1, hfz33_0, hfz33_1⟩ := cz2 BK283))
       have n0_ : Aside0 (((w31.setCell ⟨gb283, 0, none⟩ (.int .i64 t281)).setCell ⟨gb283, 1, none⟩ (.int .i64 t282)).heap[gb273]? = some (.cells #[.int .i64 0, .int .i64 0] 42 (0, 0))) := ⟨bk1 BK273 NB273_283⟩
       have n1_ : Aside0 (((w31.setCell ⟨gb283, 0, none⟩ (.int .i64 t281)).setCell ⟨gb283, 1, none⟩ (.int .i64 t282)).heap[gb283]? = some (.cells #[.int .i64 t281, .int .i64 t282] 42 (0, 0))) := ⟨bkp BK283⟩
       have n2_ : Aside0 (Below w.heap.size w ((w31.setCell ⟨gb283, 0, none⟩ (.int .i64 t281)).setCell ⟨gb283, 1, none⟩ (.int .i64 t282))) := ⟨hzs HB⟩
       (try clear BK273)
       (try clear BK283)
       (try clear HB)
       generalize ((w31.setCell ⟨gb283, 0, none⟩ (.int .i64 t281)).setCell ⟨gb283, 1, none⟩ (.int .i64 t282)) = w34 at n0_ n1_ n2_ ⊢
       have BK273 := n0_
       have BK283 := n1_
       have HB := n2_
       clear n0_ n1_ n2_
       replace BK273 := Aside0.mk (blk_drew BK273.out)
       replace BK283 := Aside0.mk (blk_drew BK283.out)
       replace HB := Aside0.mk (below_drew1 HB.out)
       refine start_ (n := 15) (S := fun w' => w'.cell? ⟨gb283, 0, none⟩ = some (.int .i64 t281) ∧ w'.cell? ⟨gb283, 1, none⟩ = some (.int .i64 t282)) (ds := []) #[false, false, false, false, false, false, false, false, false, false, false, false, false, false, false] (by kernel_rfl) rfl rfl ⟨cw0 BK283, cw1 BK283⟩ (fun hHeld => ?_); refine with_tabW impl_sine.tab14 impl_sine.bits14 (fun HT_ HW_ => ?_)
       generalize w34.drew = w35 at BK273 BK283 HB hHeld ⊢
       refine pU 0 37 #[true, false, false, false, false, false, false, false, false, false, false, false, false, false, false] HT_ ?_
       refine pU 2 39 #[true, false, true, false, false, false, false, false, false, false, false, false, false, false, false] HT_ ?_
       refine pU 7 44 #[true, false, true, false, false, false, false, true, false, false, false, false, false, false, false] HT_ ?_
       refine pU 9 46 #[true, false, true, false, false, false, false, true, false, true, false, false, false, false, false] HT_ ?_
       refine take_ (i := 1) (N := some 38) (v := ?_) (a' := ?_) #[true, true, true, false, false, false, false, true, false, true, false, false, false, false, false] rfl rfl (take_ofW HT_.out HW_.out (by kernel_rfl)) (fun _ _ _ h => h) (Or.inl ⟨by rfl, ?_⟩) hHeld ?_ ?_
       rotate_left
       ·rintro w' ⟨s0, s1⟩
        go_simp
        with_reducible rfl
       rotate_left
       ·simp only [Act.put, List.setIfInBounds_toArray, List.set_cons_zero, List.set_cons_succ, i64_w, i32_w]
        rfl
       refine take_ (i := 3) (N := some 40) (v := ?_) (a' := ?_) #[true, true, true, true, false, false, false, true, false, true, false, false, false, false, false] rfl rfl (take_ofW HT_.out HW_.out (by kernel_rfl)) (fun _ _ _ h => h) (Or.inl ⟨by rfl, ?_⟩) hHeld ?_ ?_
       rotate_left
       ·rintro w' ⟨s0, s1⟩
        go_simp
        with_reducible rfl
       rotate_left
       ·simp only [Act.put, List.setIfInBounds_toArray, List.set_cons_zero, List.set_cons_succ, i64_w, i32_w]
        rfl
       refine take_ (i := 8) (N := some 45) (v := ?_) (a' := ?_) #[true, true, true, true, false, false, false, true, true, true, false, false, false, false, false] rfl rfl (take_ofW HT_.out HW_.out (by kernel_rfl)) (fun _ _ _ h => h) (Or.inl ⟨by rfl, ?_⟩) hHeld ?_ ?_
       rotate_left
       ·rintro w' ⟨s0, s1⟩
        go_simp
        with_reducible rfl
       rotate_left
       ·simp only [Act.put, List.setIfInBounds_toArray, List.set_cons_zero, List.set_cons_succ, i64_w, i32_w]
        rfl
       refine take_ (i := 10) (N := some 47) (v := ?_) (a' := ?_) #[true, true, true, true, false, false, false, true, true, true, true, false, false, false, false] rfl rfl (take_ofW HT_.out HW_.out (by kernel_rfl)) (fun _ _ _ h => h) (Or.inl ⟨by rfl, ?_⟩) hHeld ?_ ?_
       rotate_left
       ·rintro w' ⟨s0, s1⟩
        go_simp
        with_reducible rfl
       rotate_left
       ·simp only [Act.put, List.setIfInBounds_toArray, List.set_cons_zero, List.set_cons_succ, i64_w, i32_w]
        rfl
       refine oN 4 41 #[true, true, true, true, true, false, false, true, true, true, true, false, false, false, false] HT_ (fun K hK => ?_)
       refine gS Try.func99 #[.int .i64 t281, .int .i64 t281, .int .i64 2] ?_
       with_reducible refine (impl_row.calls k t281 t281 2 t284 t285 _ A26.out).mono ?_
       rintro e w36 ⟨rfl, hb⟩
       refine ⟨_, rfl, ?_⟩
       replace BK273 := bb (bk BK273) hb
       replace BK283 := bb (bk BK283) hb
       replace HB := hbb (hzs HB) hb
       clear hb
       refine hK.out _ _ ⟨cw0 BK283, cw1 BK283⟩ (fun hHeld => ?_)
       clear hK K
       refine nP ?_
       refine pU 5 42 #[true, true, true, true, true, true, false, true, true, true, true, false, false, false, false] HT_ ?_
       refine pU 6 43 #[true, true, true, true, true, true, true, true, true, true, true, false, false, false, false] HT_ ?_
       refine oN 11 48 #[true, true, true, true, true, true, true, true, true, true, true, true, false, false, false] HT_ (fun K hK => ?_)
       refine gS Try.func99 #[.int .i64 t282, .int .i64 t282, .int .i64 2] ?_
       with_reducible refine (impl_row.calls k t282 t282 2 t286 t287 _ A28.out).mono ?_
       rintro e w37 ⟨rfl, hb⟩
       refine ⟨_, rfl, ?_⟩
       replace BK273 := bb (bk BK273) hb
       replace BK283 := bb (bk BK283) hb
       replace HB := hbb (hzs HB) hb
       clear hb
       refine hK.out _ _ ⟨cw0 BK283, cw1 BK283⟩ (fun hHeld => ?_)
       clear hK K
       refine nP ?_
       refine pU 12 49 #[true, true, true, true, true, true, true, true, true, true, true, true, true, false, false] HT_ ?_
       refine pU 13 50 #[true, true, true, true, true, true, true, true, true, true, true, true, true, true, false] HT_ ?_
       refine one_ (i := 14) (N := none) #[true, true, true, true, true, true, true, true, true, true, true, true, true, true, true] rfl rfl (one_of HT_.out (by kernel_rfl)) (by decide) (fun K hK => ?_)
       have hs38 : w37.cell? ⟨gb273, 0, none⟩ = some (.int .i64 0) := (blk_cell BK273.out 0).trans rfl
       have hfs38 := blk_frozen BK273.out 0
       have hns38_1 := NB283_273.out
       have hms38_1 := NB273_283.out
       have hs39 : w37.cell? ⟨gb273, 1, none⟩ = some (.int .i64 0) := (blk_cell BK273.out 1).trans rfl
       have hfs39 := blk_frozen BK273.out 1
       have hns39_1 := NB283_273.out
       have hms39_1 := NB273_283.out
       refine skip_ (w1 := ?_) (by rfl) rfl ?_ ?_
       rotate_left
       ·go_simp
        rfl
       refine hK.out _ _ ⟨((cell_far (p := ⟨gb273, _, none⟩) NB283_273.out _).trans (((cell_far (p := ⟨gb273, _, none⟩) NB283_273.out _).trans (hHeld.1)))), ((cell_far (p := ⟨gb273, _, none⟩) NB283_273.out _).trans (((cell_far (p := ⟨gb273, _, none⟩) NB283_273.out _).trans (hHeld.2))))⟩ (fun hHeld => ?_)
       clear hK K
       refine done_ (done_of HT_.out (by kernel_rfl)) ?_
       try go_wp2
       refine bodyPost_ret (results_cell_row rfl _ _ gb273 42 #[.int .i64 ji27, .int .i64 t287] (0, 0) _ rfl (bkp BK273) Try.underlying42 rfl (by kernel_rfl)) rfl ?_
       exact ⟨by first | rfl | (simp [errW_none, errW_some] <;> rfl) | (simp only [← hji27]; first | rfl | (simp [errW_none, errW_some] <;> rfl)) | (simp [*, errW_none, errW_some] <;> rfl), hzs HB⟩
      ·rw [if_neg c24] at H
       have c24b0 : decide (t274 ≤ 32400000) = false := decide_eq_false c24
       clear c24
       replace H := Option.bind_eq_some_iff.mp H
       obtain ⟨⟨t288, t289⟩, A400, H⟩ := H
       try dsimp only at H
       have A40 := Aside0.mk A400
       clear A400
       replace H := Option.bind_eq_some_iff.mp H
       obtain ⟨⟨t291, t292⟩, A410, H⟩ := H
       try dsimp only at H
       have A41 := Aside0.mk A410
       clear A410
       replace H := Option.bind_eq_some_iff.mp H
       obtain ⟨⟨t293, t294⟩, A420, H⟩ := H
       try dsimp only at H
       have A42 := Aside0.mk A420
       clear A420
       obtain ⟨ji43, hji43⟩ : ∃ j_ : Int, (mn 1000000000 t294) = j_ := ⟨_, rfl⟩
       replace H : (some (t291, ji43)) = some (r1, r2) := by first | (rw [hji43] at H; exact H) | (simp only [hji43] at H ⊢; exact H)
       (try rw [hji43] at A2)
       (try rw [hji43] at A40)
       (try rw [hji43] at A41)
       (try rw [hji43] at A42)
       (try (have hji43h : ji43 ≤ 1000000000 := by (rw [← hji43]; unfold mn; (repeat' split) <;> omega)))
       (try (have hji43g : ji43 ≤ 64 := by omega))
       have hji43_ : (if t294 < 1000000000 then t294 else 1000000000) = ji43 := hji43
       simp only [Option.some.injEq, Prod.mk.injEq] at H
       obtain ⟨rfl, rfl⟩ := H
       go_enter Try.func76, Try.ntmps76
       try go_wp2_with (first | ((with_reducible refine gate_dst (N := 2) rfl ?_); refine bE 2 #[.int .i64 0, .int .i64 0] 42 ?_; intro gb273 hg w44 hbox hb; have BK273 := Aside0.mk (hbox); have GE273 := gw hg (hz0 HB); have GW273 := GE273; replace HB := hbb (hz0 HB) hb; clear hb hbox hg) | ((with_reducible refine gate_callee (f := 45) rfl ?_); refine gL 6 Try.func45 #[.int .i64 a0, .int .i64 259200000] ?_; (with_reducible refine (impl_modulo.calls a0 259200000 t274 _ A2.out).mono ?_); rintro e w' ⟨rfl, ⟨nd, rfl⟩⟩; refine ⟨_, rfl, ?_⟩; (try (rw [drewN_self w44]; generalize hq_ : World.drewN w44 _ = w44; have n0_ : Aside0 (w44.heap[gb273]? = some (.cells #[.int .i64 0, .int .i64 0] 42 (0, 0))) := ⟨by rw [← hq_]; exact (bk BK273)⟩; have n1_ : Aside0 (Below w.heap.size w w44) := ⟨by rw [← hq_]; exact (hzs HB)⟩; clear BK273 HB hq_; have BK273 := n0_; have HB := n1_; clear n0_ n1_))) | ((with_reducible refine gate_callee (f := 98) rfl ?_); refine gL 53 Try.func98 #[.int .i64 (wrap64 (64800000 - t274))] ?_; (with_reducible refine (impl_arc.calls (wrap64 (64800000 - t274)) t288 t289 _ A40.out).mono ?_); rintro e w45 ⟨rfl, hb⟩; refine ⟨_, rfl, ?_⟩; replace BK273 := bb (bk BK273) hb; replace HB := hbb (hzs HB) hb; clear hb) | ((with_reducible refine gate_dst (N := 4) rfl ?_); refine bE 4 #[.int .i64 0, .int .i64 0] 42 ?_; intro gb290 hg w46 hbox hb; have BK290 := Aside0.mk (hbox); have GE290 := gw hg (hzs HB); have NB273_290 := nl hg (bk BK273); have NB290_273 := ng hg (bk BK273); replace BK273 := bb (bk BK273) hb; replace HB := hbb (hzs HB) hb; clear hb hbox hg; have hnb47 := NB290_273.out; have hnc47 := NB273_290.out; obtain ⟨hcz48_0, hcz48_1, hfz48_0, hfz48_1⟩ := cz2 BK290))
       have n0_ : Aside0 (((w46.setCell ⟨gb290, 0, none⟩ (.int .i64 t288)).setCell ⟨gb290, 1, none⟩ (.int .i64 t289)).heap[gb273]? = some (.cells #[.int .i64 0, .int .i64 0] 42 (0, 0))) := ⟨bk1 BK273 NB273_290⟩
       have n1_ : Aside0 (((w46.setCell ⟨gb290, 0, none⟩ (.int .i64 t288)).setCell ⟨gb290, 1, none⟩ (.int .i64 t289)).heap[gb290]? = some (.cells #[.int .i64 t288, .int .i64 t289] 42 (0, 0))) := ⟨bkp BK290⟩
       have n2_ : Aside0 (Below w.heap.size w ((w46.setCell ⟨gb290, 0, none⟩ (.int .i64 t288)).setCell ⟨gb290, 1, none⟩ (.int .i64 t289))) := ⟨hzs HB⟩
       (try clear BK273)
       (try clear BK290)
       (try clear HB)
       generalize ((w46.setCell ⟨gb290, 0, none⟩ (.int .i64 t288)).setCell ⟨gb290, 1, none⟩ (.int .i64 t289)) = w49 at n0_ n1_ n2_ ⊢
       have BK273 := n0_
       have BK290 := n1_
       have HB := n2_
       clear n0_ n1_ n2_
       replace BK273 := Aside0.mk (blk_drew BK273.out)
       replace BK290 := Aside0.mk (blk_drew BK290.out)
       replace HB := Aside0.mk (below_drew1 HB.out)
       refine start_ (n := 11) (S := fun w' => w'.cell? ⟨gb290, 0, none⟩ = some (.int .i64 t288) ∧ w'.cell? ⟨gb290, 1, none⟩ = some (.int .i64 t289)) (ds := []) #[false, false, false, false, false, false, false, false, false, false, false] (by kernel_rfl) rfl rfl ⟨cw0 BK290, cw1 BK290⟩ (fun hHeld => ?_); refine with_tabW impl_sine.tab16 impl_sine.bits16 (fun HT_ HW_ => ?_)
       generalize w49.drew = w50 at BK273 BK290 HB hHeld ⊢
       refine pU 0 54 #[true, false, false, false, false, false, false, false, false, false, false] HT_ ?_
       refine pU 4 58 #[true, false, false, false, true, false, false, false, false, false, false] HT_ ?_
       refine take_ (i := 1) (N := some 55) (v := ?_) (a' := ?_) #[true, true, false, false, true, false, false, false, false, false, false] rfl rfl (take_ofW HT_.out HW_.out (by kernel_rfl)) (fun _ _ _ h => h) (Or.inl ⟨by rfl, ?_⟩) hHeld ?_ ?_
       rotate_left
       ·rintro w' ⟨s0, s1⟩
        go_simp
        with_reducible rfl
       rotate_left
       ·simp only [Act.put, List.setIfInBounds_toArray, List.set_cons_zero, List.set_cons_succ, i64_w, i32_w]
        rfl
       refine take_ (i := 5) (N := some 59) (v := ?_) (a' := ?_) #[true, true, false, false, true, true, false, false, false, false, false] rfl rfl (take_ofW HT_.out HW_.out (by kernel_rfl)) (fun _ _ _ h => h) (Or.inl ⟨by rfl, ?_⟩) hHeld ?_ ?_
       rotate_left
       ·rintro w' ⟨s0, s1⟩
        go_simp
        with_reducible rfl
       rotate_left
       ·simp only [Act.put, List.setIfInBounds_toArray, List.set_cons_zero, List.set_cons_succ, i64_w, i32_w]
        rfl
       refine oN 2 56 #[true, true, true, false, true, true, false, false, false, false, false] HT_ (fun K hK => ?_)
       refine gS Try.func99 #[.int .i64 1000000000, .int .i64 t289, .int .i64 1] ?_
       with_reducible refine (impl_row.calls k 1000000000 t289 1 t291 t292 _ A41.out).mono ?_
       rintro e w51 ⟨rfl, hb⟩
       refine ⟨_, rfl, ?_⟩
       replace BK273 := bb (bk BK273) hb
       replace BK290 := bb (bk BK290) hb
       replace HB := hbb (hzs HB) hb
       clear hb
       refine hK.out _ _ ⟨cw0 BK290, cw1 BK290⟩ (fun hHeld => ?_)
       clear hK K
       refine nP ?_
       refine pU 3 57 #[true, true, true, true, true, true, false, false, false, false, false] HT_ ?_
       refine oN 6 60 #[true, true, true, true, true, true, true, false, false, false, false] HT_ (fun K hK => ?_)
       refine gS Try.func99 #[.int .i64 1000000000, .int .i64 t288, .int .i64 1] ?_
       with_reducible refine (impl_row.calls k 1000000000 t288 1 t293 t294 _ A42.out).mono ?_
       rintro e w52 ⟨rfl, hb⟩
       refine ⟨_, rfl, ?_⟩
       replace BK273 := bb (bk BK273) hb
       replace BK290 := bb (bk BK290) hb
       replace HB := hbb (hzs HB) hb
       clear hb
       refine hK.out _ _ ⟨cw0 BK290, cw1 BK290⟩ (fun hHeld => ?_)
       clear hK K
       refine nP ?_
       refine pU 7 61 #[true, true, true, true, true, true, true, true, false, false, false] HT_ ?_
       refine pU 8 62 #[true, true, true, true, true, true, true, true, true, false, false] HT_ ?_
       refine pU 9 63 #[true, true, true, true, true, true, true, true, true, true, false] HT_ ?_
       refine one_ (i := 10) (N := none) #[true, true, true, true, true, true, true, true, true, true, true] rfl rfl (one_of HT_.out (by kernel_rfl)) (by decide) (fun K hK => ?_)
       have hs53 : w52.cell? ⟨gb273, 0, none⟩ = some (.int .i64 0) := (blk_cell BK273.out 0).trans rfl
       have hfs53 := blk_frozen BK273.out 0
       have hns53_1 := NB290_273.out
       have hms53_1 := NB273_290.out
       have hs54 : w52.cell? ⟨gb273, 1, none⟩ = some (.int .i64 0) := (blk_cell BK273.out 1).trans rfl
       have hfs54 := blk_frozen BK273.out 1
       have hns54_1 := NB290_273.out
       have hms54_1 := NB273_290.out
       refine skip_ (w1 := ?_) (by rfl) rfl ?_ ?_
       rotate_left
       ·go_simp
        rfl
       refine hK.out _ _ ⟨((cell_far (p := ⟨gb273, _, none⟩) NB290_273.out _).trans (((cell_far (p := ⟨gb273, _, none⟩) NB290_273.out _).trans (hHeld.1)))), ((cell_far (p := ⟨gb273, _, none⟩) NB290_273.out _).trans (((cell_far (p := ⟨gb273, _, none⟩) NB290_273.out _).trans (hHeld.2))))⟩ (fun hHeld => ?_)
       clear hK K
       refine done_ (done_of HT_.out (by kernel_rfl)) ?_
       try go_wp2
       refine bodyPost_ret (results_cell_row rfl _ _ gb273 42 #[.int .i64 t291, .int .i64 ji43] (0, 0) _ rfl (bkp BK273) Try.underlying42 rfl (by kernel_rfl)) rfl ?_
       exact ⟨by first | rfl | (simp [errW_none, errW_some] <;> rfl) | (simp only [← hji43]; first | rfl | (simp [errW_none, errW_some] <;> rfl)) | (simp [*, errW_none, errW_some] <;> rfl), hzs HB⟩


/-! ### impl_cosine: function 79 -/
def impl_cosine.f (k : Nat) (a0 : Int) : Option (Int × Int) := (impl_sine.f k (wrap64 (2 * (wrap64 (a0 + 32400000))))).bind fun bt322 => (some (bt322.1, bt322.2))
set_option maxHeartbeats 8000000 in
set_option maxRecDepth 100000 in
theorem impl_cosine.calls (k : Nat) (a0 : Int) (r1 : Int) (r2 : Int) (w : World) (h : impl_cosine.f k a0 = some (r1, r2)) :
  Calls Try.prog 79 #[.int .i64 a0] w fun e w' => e = .returned (.agg #[.int .i64 r1, .int .i64 r2]) ∧ Below w.heap.size w w' := by
 have hu42 := Try.underlying42
 have HB := Aside0.mk (Below.refl w.heap.size w)
 have H : ((impl_sine.f k (wrap64 (2 * (wrap64 (a0 + 32400000))))).bind fun bt322 => (some (bt322.1, bt322.2))) = some (r1, r2) := h
 clear h
 replace H := Option.bind_eq_some_iff.mp H
 obtain ⟨⟨t322, t323⟩, A20, H⟩ := H
 try dsimp only at H
 have A2 := Aside0.mk A20
 clear A20
 simp only [Option.some.injEq, Prod.mk.injEq] at H
 obtain ⟨rfl, rfl⟩ := H
 go_enter Try.func79, Try.ntmps79
 go_wp2_with (first | ((with_reducible refine gate_dst (N := 2) rfl ?_); refine bE 2 #[.int .i64 0, .int .i64 0] 42 ?_; intro gb321 hg w3 hbox hb; have BK321 := Aside0.mk (hbox); have GE321 := gw hg (hz0 HB); replace HB := hbb (hz0 HB) hb; clear hb hbox hg) | ((with_reducible refine gate_callee (f := 76) rfl ?_); refine gL 6 Try.func76 #[.int .i64 (wrap64 (2 * (wrap64 (a0 + 32400000))))] ?_; (with_reducible refine (impl_sine.calls k (wrap64 (2 * (wrap64 (a0 + 32400000)))) t322 t323 _ A2.out).mono ?_); rintro e w4 ⟨rfl, hb⟩; refine ⟨_, rfl, ?_⟩; replace BK321 := bb (bk BK321) hb; replace HB := hbb (hzs HB) hb; clear hb; obtain ⟨hcz5_0, hcz5_1, hfz5_0, hfz5_1⟩ := cz2 BK321))
 refine bodyPost_ret (results_cell_row rfl _ _ gb321 42 #[.int .i64 t322, .int .i64 t323] (0, 0) _ rfl (bkp BK321) Try.underlying42 rfl (by kernel_rfl)) rfl ?_
 exact ⟨by first | rfl | (simp [errW_none, errW_some] <;> rfl) | (simp [*, errW_none, errW_some] <;> rfl), hzs HB⟩


end Go.Proofs.Ytmcippkpgmehdaa.M
