import Derived.Test.YtcdgplkmahabiaaM0
import Derived.Test.YtcdgplkmahabiaaMa
import Derived.Test.YtcdgplkmahabiaaMc
import Derived.Test.YtcdgplkmahabiaaMf
namespace Go.Proofs.Ytcdgplkmahabiaa.M
open Go.RowKit Go.Proofs.YtcdgplkmahabiaaW.PrintWords Go.Proofs.YtcdgplkmahabiaaW.PrintLast Go.Proofs.YtcdgplkmahabiaaW.PrintMore
attribute [local go_sem] max2_int min2_int max_two min_two max_three min_three max_four min_four
attribute [local go_sem high] eqA23 eqA30
attribute [local go_sem] fld23_0 fld23_1 fld30_0 fld30_1 fld55_0 fld55_1 fld55_2 fld55_3 fld55_4
set_option linter.unusedVariables false
set_option linter.unusedSimpArgs false

/-! ### impl_TurnBy: function 16 -/
def impl_TurnBy.j0 : Nat → Int → Int → Int → Bool → Option (Int × Int × Int × Int × Bool)
 | 0, _, _, _, _ => none
 | k + 1, x0, x1, x2, x27 => if x27 = true then (some (0, 0, 0, 0, false)) else ((impl_sine.f k (wrap64 (2 * x2))).bind fun bt287 => ((impl_cosine.f k x2).bind fun bt289 => ((impl_scaled.f k x0 bt289.1 bt289.2).bind fun bt293 => ((impl_scaled.f k x1 bt287.1 bt287.2).bind fun bt295 => ((impl_SpanAdd.f bt293.1 bt293.2 bt295.1 bt295.2).bind fun bt297 => ((impl_scaled.f k x1 bt289.1 bt289.2).bind fun bt301 => ((impl_scaled.f k x0 bt287.1 bt287.2).bind fun bt303 => ((impl_SpanSub.f bt301.1 bt301.2 bt303.1 bt303.2).bind fun bt305 => (some (bt297.1, bt297.2.1, bt305.1, bt305.2.1, true))))))))))
def impl_TurnBy.f (k : Nat) (a0 : Int) (a1 : Int) (a2 : Int) : Option (Int × Int × Int × Int × Bool) := (impl_isHalf.f a0).bind fun t284 => (if t284 = true then ((impl_isHalf.f a1).bind fun t285 => (if t285 = true then ((impl_isAngle.f a2).bind fun t286 => (impl_TurnBy.j0 k a0 a1 a2 (!t286))) else (impl_TurnBy.j0 k a0 a1 a2 true))) else (impl_TurnBy.j0 k a0 a1 a2 true))
theorem impl_TurnBy.mono_l : ∀ k, (∀ y0 y1 y2 y3, LeO (impl_TurnBy.j0 k y0 y1 y2 y3) (impl_TurnBy.j0 (k + 1) y0 y1 y2 y3))
 | 0 => fun _ _ _ _ r h => by simp [impl_TurnBy.j0] at h
 | k + 1 => by
  have ih0 := impl_TurnBy.mono_l k
  ·intro y0 y1 y2 y3
   unfold impl_TurnBy.j0
   repeat' first
   | (with_reducible exact ih0 _ _ _ _)
   | (with_reducible exact impl_cosine.mono _ _)
   | (with_reducible exact impl_scaled.mono _ _ _ _)
   | (with_reducible exact impl_sine.mono _ _)
   | (with_reducible exact LeO.refl _)
   | (with_reducible exact LeO.none _)
   | (with_reducible refine LeO.ite ?_ ?_)
   | (with_reducible refine LeO.bind ?_ (fun _ => ?_))
   | exact ih0 _ _ _ _
   | exact impl_cosine.mono _ _
   | exact impl_scaled.mono _ _ _ _
   | exact impl_sine.mono _ _
   | exact LeO.none _
   | refine LeO.ite ?_ ?_
   | refine LeO.bind ?_ (fun _ => ?_)
theorem impl_TurnBy.mono : ∀ a0 a1 a2 k, LeO (impl_TurnBy.f k a0 a1 a2) (impl_TurnBy.f (k + 1) a0 a1 a2) := by
 intro a0 a1 a2 k
 have ih0 := impl_TurnBy.mono_l k
 unfold impl_TurnBy.f
 repeat' first
   | (with_reducible exact ih0 _ _ _ _)
   | (with_reducible exact impl_cosine.mono _ _)
   | (with_reducible exact impl_scaled.mono _ _ _ _)
   | (with_reducible exact impl_sine.mono _ _)
   | (with_reducible exact LeO.refl _)
   | (with_reducible exact LeO.none _)
   | (with_reducible refine LeO.ite ?_ ?_)
   | (with_reducible refine LeO.bind ?_ (fun _ => ?_))
   | exact ih0 _ _ _ _
   | exact impl_cosine.mono _ _
   | exact impl_scaled.mono _ _ _ _
   | exact impl_sine.mono _ _
   | exact LeO.none _
   | refine LeO.ite ?_ ?_
   | refine LeO.bind ?_ (fun _ => ?_)
def impl_TurnBy.T4 : Bool × List (List Nat × List Nat) := (true, [([], []), ([], []), ([0, 1], [0, 1]), ([], []), ([], []), ([3, 4, 2], [3, 4]), ([2, 5, 5], [2, 5]), ([6], [6]), ([7], [7]), ([7], [7]), ([], []), ([10, 8, 6, 0, 1, 2, 3, 4, 5, 6, 7, 8, 10], [8, 10]), ([9, 11, 0, 1, 2, 3, 4, 5, 6, 7, 8, 9, 10, 11], [9])])
def impl_TurnBy.B4 : List Nat := [0, 0, 3, 0, 0, 31, 63, 127, 255, 255, 0, 1535, 4095]
theorem impl_TurnBy.tab4 : rtab .any (opsOf Try.f16 4) = impl_TurnBy.T4 := by kernel_rfl
theorem impl_TurnBy.bits4 : waitsOk impl_TurnBy.T4.2 impl_TurnBy.B4 = true := by kernel_rfl
def impl_TurnBy.T5 : Bool × List (List Nat × List Nat) := (true, [([], []), ([], []), ([0, 1], [0, 1]), ([], []), ([], []), ([3, 4, 2], [3, 4]), ([2, 5, 5], [2, 5]), ([6], [6]), ([7], [7]), ([7], [7]), ([], []), ([10, 8, 6, 0, 1, 2, 3, 4, 5, 6, 7, 8, 10], [8, 10]), ([9, 11, 0, 1, 2, 3, 4, 5, 6, 7, 8, 9, 10, 11], [9])])
def impl_TurnBy.B5 : List Nat := [0, 0, 3, 0, 0, 31, 63, 127, 255, 255, 0, 1535, 4095]
theorem impl_TurnBy.tab5 : rtab .any (opsOf Try.f16 5) = impl_TurnBy.T5 := by kernel_rfl
theorem impl_TurnBy.bits5 : waitsOk impl_TurnBy.T5.2 impl_TurnBy.B5 = true := by kernel_rfl
set_option maxHeartbeats 8000000 in
set_option maxRecDepth 100000 in
theorem impl_TurnBy.calls (k : Nat) (a0 : Int) (a1 : Int) (a2 : Int) (r1 : Int) (r2 : Int) (r3 : Int) (r4 : Int) (r5 : Bool) (w : World) (h : impl_TurnBy.f k a0 a1 a2 = some (r1, r2, r3, r4, r5)) :
  Calls Try.prog 16 #[.int .i64 a0, .int .i64 a1, .int .i64 a2] w fun e w' => e = .returned (.tuple #[.agg #[.int .i64 r1, .int .i64 r2], .agg #[.int .i64 r3, .int .i64 r4], .bool r5]) ∧ Below w.heap.size w w' := by
 have hu23 := Try.underlying23
 have HB := Aside0.mk (Below.refl w.heap.size w)
 have H : ((impl_isHalf.f a0).bind fun t284 => (if t284 = true then ((impl_isHalf.f a1).bind fun t285 => (if t285 = true then ((impl_isAngle.f a2).bind fun t286 => (impl_TurnBy.j0 k a0 a1 a2 (!t286))) else (impl_TurnBy.j0 k a0 a1 a2 true))) else (impl_TurnBy.j0 k a0 a1 a2 true))) = some (r1, r2, r3, r4, r5) := h
 clear h
 have HC4 := Aside0.mk H
 clear H
 go_enter Try.func16, Try.ntmps16
 go_upto_region 1 with (first | ((with_reducible refine gate_dst (N := 6) rfl ?_); refine bE 6 #[.int .i64 0, .int .i64 0] 23 ?_; intro gb282 hg w5 hbox hb; have BK282 := Aside0.mk (hbox); have GE282 := gw hg (h0_ HB); have GW282 := GE282; replace HB := hbb (h0_ HB) hb; clear hb hbox hg) | ((with_reducible refine gate_dst (N := 7) rfl ?_); refine bE 7 #[.int .i64 0, .int .i64 0] 23 ?_; intro gb283 hg w6 hbox hb; have BK283 := Aside0.mk (hbox); have GE283 := gw hg (hs_ HB); have GW283 := GE283; have NB282_283 := nl hg (bk BK282); have NB283_282 := ng hg (bk BK282); replace BK282 := bb (bk BK282) hb; replace HB := hbb (hs_ HB) hb; clear hb hbox hg))
 (try simp only [Act.put, List.setIfInBounds_toArray, List.set_cons_zero, List.set_cons_succ])
 go_cut [27] (fun v27 wc => ∃ (kq : Nat) (x27_3 : Bool), v27 = .bool x27_3 ∧ Aside0 (impl_TurnBy.j0 kq a0 a1 a2 x27_3 = some (r1, r2, r3, r4, r5)) ∧ Aside0 (kq ≤ k) ∧ Aside0 (wc.heap[gb282]? = some (.cells #[.int .i64 0, .int .i64 0] 23 (0, 0))) ∧ Aside0 (wc.heap[gb283]? = some (.cells #[.int .i64 0, .int .i64 0] 23 (0, 0))) ∧ Aside0 (Below w.heap.size w wc))
 case first =>
  have H := HC4.out
  clear HC4
  replace H := Option.bind_eq_some_iff.mp H
  obtain ⟨t284, A70, H⟩ := H
  replace H : (if t284 = true then ((impl_isHalf.f a1).bind fun t285 => (if t285 = true then ((impl_isAngle.f a2).bind fun t286 => (impl_TurnBy.j0 k a0 a1 a2 (!t286))) else (impl_TurnBy.j0 k a0 a1 a2 true))) else (impl_TurnBy.j0 k a0 a1 a2 true)) = some (r1, r2, r3, r4, r5) := H
  have A7 := Aside0.mk A70
  clear A70
  by_cases c8 : t284 = true
  ·subst c8
   have H1 : ((impl_isHalf.f a1).bind fun t285 => (if t285 = true then ((impl_isAngle.f a2).bind fun t286 => (impl_TurnBy.j0 k a0 a1 a2 (!t286))) else (impl_TurnBy.j0 k a0 a1 a2 true))) = some (r1, r2, r3, r4, r5) := by rw [if_pos rfl] at H; exact H
   clear H
   have H := H1
   clear H1
   replace H := Option.bind_eq_some_iff.mp H
   obtain ⟨t285, A90, H⟩ := H
   replace H : (if t285 = true then ((impl_isAngle.f a2).bind fun t286 => (impl_TurnBy.j0 k a0 a1 a2 (!t286))) else (impl_TurnBy.j0 k a0 a1 a2 true)) = some (r1, r2, r3, r4, r5) := H
   have A9 := Aside0.mk A90
   clear A90
   by_cases c10 : t285 = true
   ·subst c10
    have H1 : ((impl_isAngle.f a2).bind fun t286 => (impl_TurnBy.j0 k a0 a1 a2 (!t286))) = some (r1, r2, r3, r4, r5) := by rw [if_pos rfl] at H; exact H
    clear H
    have H := H1
    clear H1
    replace H := Option.bind_eq_some_iff.mp H
    obtain ⟨t286, A110, H⟩ := H
    replace H : (impl_TurnBy.j0 k a0 a1 a2 (!t286)) = some (r1, r2, r3, r4, r5) := H
    have A11 := Aside0.mk A110
    clear A110
    have H' := Aside0.mk H
    clear H
    go_wp2_with (first | ((with_reducible refine gate_callee (f := 39) rfl ?_); refine gL 16 Try.func39 #[.int .i64 a0] ?_; (with_reducible refine (impl_isHalf.calls a0 true _ A7.out).mono ?_); rintro e w' ⟨rfl, ⟨nd, rfl⟩⟩; refine ⟨_, rfl, ?_⟩) | (go_at_call 39; (with_reducible refine (impl_isHalf.calls a1 true _ A9.out).mono ?_); rintro e w' ⟨rfl, ⟨nd, rfl⟩⟩) | (go_at_call 40; (with_reducible refine (impl_isAngle.calls a2 t286 _ A11.out).mono ?_); rintro e w' ⟨rfl, ⟨nd, rfl⟩⟩))
    go_meet
    case rel => exact ⟨_, (!t286), (by first | rfl | (simp; done) | (simp [*]; done)), H', ⟨by first | omega | exact Nat.le_refl _⟩, ⟨bk BK282⟩, ⟨bk BK283⟩, ⟨hs_ HB⟩⟩
   ·replace c10 := Bool.eq_false_iff.mpr c10
    subst c10
    have H1 : (impl_TurnBy.j0 k a0 a1 a2 true) = some (r1, r2, r3, r4, r5) := by rw [if_neg (show ¬ (false = true) by decide)] at H; exact H
    clear H
    have H := H1
    clear H1
    have H' := Aside0.mk H
    clear H
    go_wp2_with (first | ((with_reducible refine gate_callee (f := 39) rfl ?_); refine gL 16 Try.func39 #[.int .i64 a0] ?_; (with_reducible refine (impl_isHalf.calls a0 true _ A7.out).mono ?_); rintro e w' ⟨rfl, ⟨nd, rfl⟩⟩; refine ⟨_, rfl, ?_⟩) | (go_at_call 39; (with_reducible refine (impl_isHalf.calls a1 false _ A9.out).mono ?_); rintro e w' ⟨rfl, ⟨nd, rfl⟩⟩))
    go_meet
    case rel => exact ⟨_, (true), (by first | rfl | (simp; done) | (simp [*]; done)), H', ⟨by first | omega | exact Nat.le_refl _⟩, ⟨bk BK282⟩, ⟨bk BK283⟩, ⟨hs_ HB⟩⟩
  ·replace c8 := Bool.eq_false_iff.mpr c8
   subst c8
   have H1 : (impl_TurnBy.j0 k a0 a1 a2 true) = some (r1, r2, r3, r4, r5) := by rw [if_neg (show ¬ (false = true) by decide)] at H; exact H
   clear H
   have H := H1
   clear H1
   have H' := Aside0.mk H
   clear H
   go_wp2_with (first | ((with_reducible refine gate_callee (f := 39) rfl ?_); refine gL 16 Try.func39 #[.int .i64 a0] ?_; (with_reducible refine (impl_isHalf.calls a0 false _ A7.out).mono ?_); rintro e w' ⟨rfl, ⟨nd, rfl⟩⟩; refine ⟨_, rfl, ?_⟩))
   go_meet
   case rel => exact ⟨_, (true), (by first | rfl | (simp; done) | (simp [*]; done)), H', ⟨by first | omega | exact Nat.le_refl _⟩, ⟨bk BK282⟩, ⟨bk BK283⟩, ⟨hs_ HB⟩⟩
 case rest =>
  clear HC4
  try clear c1
  try clear p2
  try clear c3
  try clear c8
  try clear c10
  obtain ⟨kq, x27_3, rfl, HA, HJ3, BK282, BK283, HB⟩ := hcut
  cases kq with
  | zero => exact absurd HA.out (by simp [impl_TurnBy.j0])
  | succ kj3 =>
   have H := HA.out
   clear HA
   simp only [impl_TurnBy.j0] at H
   by_cases c12 : x27_3 = true
   ·subst c12
    have H1 : (some (0, 0, 0, 0, false)) = some (r1, r2, r3, r4, r5) := by rw [if_pos rfl] at H; exact H
    clear H
    have H := H1
    clear H1
    simp only [Option.some.injEq, Prod.mk.injEq] at H
    obtain ⟨rfl, rfl, rfl, rfl, rfl⟩ := H
    have hnb13 := NB282_283.out
    have hnc13 := NB283_282.out
    obtain ⟨hcz14_0, hcz14_1, hfz14_0, hfz14_1⟩ := cz2 BK282
    obtain ⟨hcz15_0, hcz15_1, hfz15_0, hfz15_1⟩ := cz2 BK283
    go_wp2
    refine bodyPost_ret (results_list (rs := [.cell 6 23, .cell 7 23, .tmp 8]) rfl (by simp) (.cell gb282 23 #[.int .i64 0, .int .i64 0] (0, 0) _ rfl (bkp BK282) Try.underlying23 rfl (by kernel_rfl) (.cell gb283 23 #[.int .i64 0, .int .i64 0] (0, 0) _ rfl (bkp BK283) Try.underlying23 rfl (by kernel_rfl) (.tmp .nil)))) rfl ?_
    exact ⟨by first | rfl | (simp [errW_none, errW_some] <;> rfl) | (simp [*, errW_none, errW_some] <;> rfl), hs_ HB⟩
   ·replace c12 := Bool.eq_false_iff.mpr c12
    subst c12
    have H1 : ((impl_sine.f kj3 (wrap64 (2 * a2))).bind fun bt287 => ((impl_cosine.f kj3 a2).bind fun bt289 => ((impl_scaled.f kj3 a0 bt289.1 bt289.2).bind fun bt293 => ((impl_scaled.f kj3 a1 bt287.1 bt287.2).bind fun bt295 => ((impl_SpanAdd.f bt293.1 bt293.2 bt295.1 bt295.2).bind fun bt297 => ((impl_scaled.f kj3 a1 bt289.1 bt289.2).bind fun bt301 => ((impl_scaled.f kj3 a0 bt287.1 bt287.2).bind fun bt303 => ((impl_SpanSub.f bt301.1 bt301.2 bt303.1 bt303.2).bind fun bt305 => (some (bt297.1, bt297.2.1, bt305.1, bt305.2.1, true)))))))))) = some (r1, r2, r3, r4, r5) := by rw [if_neg (show ¬ (false = true) by decide)] at H; exact H
    clear H
    have H := H1
    clear H1
    replace H := Option.bind_eq_some_iff.mp H
    obtain ⟨⟨t287, t288⟩, A160, H⟩ := H
    replace H : ((impl_cosine.f kj3 a2).bind fun bt289 => ((impl_scaled.f kj3 a0 bt289.1 bt289.2).bind fun bt293 => ((impl_scaled.f kj3 a1 t287 t288).bind fun bt295 => ((impl_SpanAdd.f bt293.1 bt293.2 bt295.1 bt295.2).bind fun bt297 => ((impl_scaled.f kj3 a1 bt289.1 bt289.2).bind fun bt301 => ((impl_scaled.f kj3 a0 t287 t288).bind fun bt303 => ((impl_SpanSub.f bt301.1 bt301.2 bt303.1 bt303.2).bind fun bt305 => (some (bt297.1, bt297.2.1, bt305.1, bt305.2.1, true))))))))) = some (r1, r2, r3, r4, r5) := H
    have A16 := Aside0.mk A160
    clear A160
    replace H := Option.bind_eq_some_iff.mp H
    obtain ⟨⟨t289, t290⟩, A170, H⟩ := H
    replace H : ((impl_scaled.f kj3 a0 t289 t290).bind fun bt293 => ((impl_scaled.f kj3 a1 t287 t288).bind fun bt295 => ((impl_SpanAdd.f bt293.1 bt293.2 bt295.1 bt295.2).bind fun bt297 => ((impl_scaled.f kj3 a1 t289 t290).bind fun bt301 => ((impl_scaled.f kj3 a0 t287 t288).bind fun bt303 => ((impl_SpanSub.f bt301.1 bt301.2 bt303.1 bt303.2).bind fun bt305 => (some (bt297.1, bt297.2.1, bt305.1, bt305.2.1, true)))))))) = some (r1, r2, r3, r4, r5) := H
    have A17 := Aside0.mk A170
    clear A170
    replace H := Option.bind_eq_some_iff.mp H
    obtain ⟨⟨t293, t294⟩, A180, H⟩ := H
    replace H : ((impl_scaled.f kj3 a1 t287 t288).bind fun bt295 => ((impl_SpanAdd.f t293 t294 bt295.1 bt295.2).bind fun bt297 => ((impl_scaled.f kj3 a1 t289 t290).bind fun bt301 => ((impl_scaled.f kj3 a0 t287 t288).bind fun bt303 => ((impl_SpanSub.f bt301.1 bt301.2 bt303.1 bt303.2).bind fun bt305 => (some (bt297.1, bt297.2.1, bt305.1, bt305.2.1, true))))))) = some (r1, r2, r3, r4, r5) := H
    have A18 := Aside0.mk A180
    clear A180
    replace H := Option.bind_eq_some_iff.mp H
    obtain ⟨⟨t295, t296⟩, A190, H⟩ := H
    replace H : ((impl_SpanAdd.f t293 t294 t295 t296).bind fun bt297 => ((impl_scaled.f kj3 a1 t289 t290).bind fun bt301 => ((impl_scaled.f kj3 a0 t287 t288).bind fun bt303 => ((impl_SpanSub.f bt301.1 bt301.2 bt303.1 bt303.2).bind fun bt305 => (some (bt297.1, bt297.2.1, bt305.1, bt305.2.1, true)))))) = some (r1, r2, r3, r4, r5) := H
    have A19 := Aside0.mk A190
    clear A190
    replace H := Option.bind_eq_some_iff.mp H
    obtain ⟨⟨t297, t298, t299⟩, A200, H⟩ := H
    replace H : ((impl_scaled.f kj3 a1 t289 t290).bind fun bt301 => ((impl_scaled.f kj3 a0 t287 t288).bind fun bt303 => ((impl_SpanSub.f bt301.1 bt301.2 bt303.1 bt303.2).bind fun bt305 => (some (t297, t298, bt305.1, bt305.2.1, true))))) = some (r1, r2, r3, r4, r5) := H
    have A20 := Aside0.mk A200
    clear A200
    replace H := Option.bind_eq_some_iff.mp H
    obtain ⟨⟨t301, t302⟩, A210, H⟩ := H
    replace H : ((impl_scaled.f kj3 a0 t287 t288).bind fun bt303 => ((impl_SpanSub.f t301 t302 bt303.1 bt303.2).bind fun bt305 => (some (t297, t298, bt305.1, bt305.2.1, true)))) = some (r1, r2, r3, r4, r5) := H
    have A21 := Aside0.mk A210
    clear A210
    replace H := Option.bind_eq_some_iff.mp H
    obtain ⟨⟨t303, t304⟩, A220, H⟩ := H
    replace H : ((impl_SpanSub.f t301 t302 t303 t304).bind fun bt305 => (some (t297, t298, bt305.1, bt305.2.1, true))) = some (r1, r2, r3, r4, r5) := H
    have A22 := Aside0.mk A220
    clear A220
    replace H := Option.bind_eq_some_iff.mp H
    obtain ⟨⟨t305, t306, t307⟩, A230, H⟩ := H
    replace H : (some (t297, t298, t305, t306, true)) = some (r1, r2, r3, r4, r5) := H
    have A23 := Aside0.mk A230
    clear A230
    simp only [Option.some.injEq, Prod.mk.injEq] at H
    obtain ⟨rfl, rfl, rfl, rfl, rfl⟩ := H
    try go_wp2_with (first | ((with_reducible refine gate_callee (f := 41) rfl ?_); refine gL 32 Try.func41 #[.int .i64 (wrap64 (2 * a2))] ?_; (with_reducible refine (impl_sine.calls kj3 (wrap64 (2 * a2)) t287 t288 _ A16.out).mono ?_); rintro e w24 ⟨rfl, hb⟩; refine ⟨_, rfl, ?_⟩; replace BK282 := bb (bk BK282) hb; replace BK283 := bb (bk BK283) hb; replace HB := hbb (hs_ HB) hb; clear hb) | ((with_reducible refine gate_callee (f := 42) rfl ?_); refine gL 34 Try.func42 #[.int .i64 a2] ?_; (with_reducible refine (impl_cosine.calls kj3 a2 t289 t290 _ A17.out).mono ?_); rintro e w25 ⟨rfl, hb⟩; refine ⟨_, rfl, ?_⟩; replace BK282 := bb (bk BK282) hb; replace BK283 := bb (bk BK283) hb; replace HB := hbb (hs_ HB) hb; clear hb) | ((with_reducible refine gate_dst (N := 9) rfl ?_); refine bE 9 #[.int .i64 0, .int .i64 0] 23 ?_; intro gb291 hg w26 hbox hb; have BK291 := Aside0.mk (hbox); have GE291 := gw hg (hs_ HB); have GW291 := GE291; have NB282_291 := nl hg (bk BK282); have NB291_282 := ng hg (bk BK282); have NB283_291 := nl hg (bk BK283); have NB291_283 := ng hg (bk BK283); replace BK282 := bb (bk BK282) hb; replace BK283 := bb (bk BK283) hb; replace HB := hbb (hs_ HB) hb; clear hb hbox hg) | ((with_reducible refine gate_dst (N := 10) rfl ?_); refine bE 10 #[.int .i64 0, .int .i64 0] 23 ?_; intro gb292 hg w27 hbox hb; have BK292 := Aside0.mk (hbox); have GE292 := gw hg (hs_ HB); have GW292 := GE292; have NB282_292 := nl hg (bk BK282); have NB292_282 := ng hg (bk BK282); have NB283_292 := nl hg (bk BK283); have NB292_283 := ng hg (bk BK283); have NB291_292 := nl hg (bk BK291); have NB292_291 := ng hg (bk BK291); replace BK282 := bb (bk BK282) hb; replace BK283 := bb (bk BK283) hb; replace BK291 := bb (bk BK291) hb; replace HB := hbb (hs_ HB) hb; clear hb hbox hg; have hnb28 := NB291_282.out; have hnc28 := NB282_291.out; have hnb29 := NB291_283.out; have hnc29 := NB283_291.out; have hnb30 := NB291_292.out; have hnc30 := NB292_291.out; obtain ⟨hcz31_0, hcz31_1, hfz31_0, hfz31_1⟩ := cz2 BK291; have hnb32 := NB292_282.out; have hnc32 := NB282_292.out; have hnb33 := NB292_283.out; have hnc33 := NB283_292.out; obtain ⟨hcz34_0, hcz34_1, hfz34_0, hfz34_1⟩ := cz2 BK292))
    have n0_ : Aside0 (((((w27.setCell ⟨gb291, 0, none⟩ (.int .i64 t287)).setCell ⟨gb291, 1, none⟩ (.int .i64 t288)).setCell ⟨gb292, 0, none⟩ (.int .i64 t289)).setCell ⟨gb292, 1, none⟩ (.int .i64 t290)).heap[gb282]? = some (.cells #[.int .i64 0, .int .i64 0] 23 (0, 0))) := ⟨bk2 BK282 NB282_292 NB282_291⟩
    have n1_ : Aside0 (((((w27.setCell ⟨gb291, 0, none⟩ (.int .i64 t287)).setCell ⟨gb291, 1, none⟩ (.int .i64 t288)).setCell ⟨gb292, 0, none⟩ (.int .i64 t289)).setCell ⟨gb292, 1, none⟩ (.int .i64 t290)).heap[gb283]? = some (.cells #[.int .i64 0, .int .i64 0] 23 (0, 0))) := ⟨bk2 BK283 NB283_292 NB283_291⟩
    have n2_ : Aside0 (((((w27.setCell ⟨gb291, 0, none⟩ (.int .i64 t287)).setCell ⟨gb291, 1, none⟩ (.int .i64 t288)).setCell ⟨gb292, 0, none⟩ (.int .i64 t289)).setCell ⟨gb292, 1, none⟩ (.int .i64 t290)).heap[gb291]? = some (.cells #[.int .i64 t287, .int .i64 t288] 23 (0, 0))) := ⟨bkp BK291⟩
    have n3_ : Aside0 (((((w27.setCell ⟨gb291, 0, none⟩ (.int .i64 t287)).setCell ⟨gb291, 1, none⟩ (.int .i64 t288)).setCell ⟨gb292, 0, none⟩ (.int .i64 t289)).setCell ⟨gb292, 1, none⟩ (.int .i64 t290)).heap[gb292]? = some (.cells #[.int .i64 t289, .int .i64 t290] 23 (0, 0))) := ⟨bkp BK292⟩
    have n4_ : Aside0 (Below w.heap.size w ((((w27.setCell ⟨gb291, 0, none⟩ (.int .i64 t287)).setCell ⟨gb291, 1, none⟩ (.int .i64 t288)).setCell ⟨gb292, 0, none⟩ (.int .i64 t289)).setCell ⟨gb292, 1, none⟩ (.int .i64 t290))) := ⟨hs_ HB⟩
    (try clear BK282)
    (try clear BK283)
    (try clear BK291)
    (try clear BK292)
    (try clear HB)
    generalize ((((w27.setCell ⟨gb291, 0, none⟩ (.int .i64 t287)).setCell ⟨gb291, 1, none⟩ (.int .i64 t288)).setCell ⟨gb292, 0, none⟩ (.int .i64 t289)).setCell ⟨gb292, 1, none⟩ (.int .i64 t290)) = w35 at n0_ n1_ n2_ n3_ n4_ ⊢
    have BK282 := n0_
    have BK283 := n1_
    have BK291 := n2_
    have BK292 := n3_
    have HB := n4_
    clear n0_ n1_ n2_ n3_ n4_
    replace BK282 := Aside0.mk (blk_drew BK282.out)
    replace BK283 := Aside0.mk (blk_drew BK283.out)
    replace BK291 := Aside0.mk (blk_drew BK291.out)
    replace BK292 := Aside0.mk (blk_drew BK292.out)
    replace HB := Aside0.mk (below_drew1 HB.out)
    refine start_ (n := 13) (S := fun w' => w'.cell? ⟨gb292, 0, none⟩ = some (.int .i64 t289) ∧ w'.cell? ⟨gb292, 1, none⟩ = some (.int .i64 t290) ∧ w'.cell? ⟨gb291, 0, none⟩ = some (.int .i64 t287) ∧ w'.cell? ⟨gb291, 1, none⟩ = some (.int .i64 t288)) (ds := []) #[false, false, false, false, false, false, false, false, false, false, false, false, false] (by kernel_rfl) rfl rfl ⟨(blk_cell BK292.out 0).trans rfl, (blk_cell BK292.out 1).trans rfl, (blk_cell BK291.out 0).trans rfl, (blk_cell BK291.out 1).trans rfl⟩ (fun hHeld => ?_); refine with_tabW impl_TurnBy.tab4 impl_TurnBy.bits4 (fun HT_ HW_ => ?_)
    generalize w35.drew = w36 at BK282 BK283 BK291 BK292 HB hHeld ⊢
    refine pure_ (i := 0) (N := some 36) (v := ?_) (a' := ?_) #[true, false, false, false, false, false, false, false, false, false, false, false, false] rfl rfl (any_of HT_.out (by kernel_rfl)) (fun _ _ _ h => h) (Or.inl ⟨by rfl, ?_⟩) ?_ ?_
    rotate_left
    ·intro w'
     go_simp
     with_reducible rfl
    rotate_left
    ·simp only [Act.put, List.setIfInBounds_toArray, List.set_cons_zero, List.set_cons_succ, i64_w, i32_w]
     rfl
    refine pure_ (i := 3) (N := some 39) (v := ?_) (a' := ?_) #[true, false, false, true, false, false, false, false, false, false, false, false, false] rfl rfl (any_of HT_.out (by kernel_rfl)) (fun _ _ _ h => h) (Or.inl ⟨by rfl, ?_⟩) ?_ ?_
    rotate_left
    ·intro w'
     go_simp
     with_reducible rfl
    rotate_left
    ·simp only [Act.put, List.setIfInBounds_toArray, List.set_cons_zero, List.set_cons_succ, i64_w, i32_w]
     rfl
    refine take_ (i := 1) (N := some 37) (v := ?_) (a' := ?_) #[true, true, false, true, false, false, false, false, false, false, false, false, false] rfl rfl (take_ofW HT_.out HW_.out (by kernel_rfl)) (fun _ _ _ h => h) (Or.inl ⟨by rfl, ?_⟩) hHeld ?_ ?_
    rotate_left
    ·rintro w' ⟨s0, s1, s2, s3⟩
     go_simp
     with_reducible rfl
    rotate_left
    ·simp only [Act.put, List.setIfInBounds_toArray, List.set_cons_zero, List.set_cons_succ, i64_w, i32_w]
     rfl
    refine take_ (i := 4) (N := some 40) (v := ?_) (a' := ?_) #[true, true, false, true, true, false, false, false, false, false, false, false, false] rfl rfl (take_ofW HT_.out HW_.out (by kernel_rfl)) (fun _ _ _ h => h) (Or.inl ⟨by rfl, ?_⟩) hHeld ?_ ?_
    rotate_left
    ·rintro w' ⟨s0, s1, s2, s3⟩
     go_simp
     with_reducible rfl
    rotate_left
    ·simp only [Act.put, List.setIfInBounds_toArray, List.set_cons_zero, List.set_cons_succ, i64_w, i32_w]
     rfl
    refine join_ (σ := Nat) 2 #[true, true, true, true, true, true, true, true, true, true, true, false, false] (fun s_ => [(38, .agg #[.int .i64 t293, .int .i64 t294]), (41, .agg #[.int .i64 t295, .int .i64 t296]), (42, .tuple #[.agg #[.int .i64 t297, .int .i64 t298], .bool t299]), (11, .pointer (some ⟨s_, 0, none⟩)), (35, .tuple #[.agg #[.int .i64 t297, .int .i64 t298], .bool t299]), (43, .agg #[.int .i64 t297, .int .i64 t298]), (44, .bool t299)]) (fun s_ w' => (w'.cell? ⟨gb292, 0, none⟩ = some (.int .i64 t289) ∧ w'.cell? ⟨gb292, 1, none⟩ = some (.int .i64 t290) ∧ w'.cell? ⟨gb291, 0, none⟩ = some (.int .i64 t287) ∧ w'.cell? ⟨gb291, 1, none⟩ = some (.int .i64 t288)) ∧ (w'.heap[gb282]? = some (.cells #[.int .i64 0, .int .i64 0] 23 (0, 0))) ∧ (w'.heap[gb283]? = some (.cells #[.int .i64 0, .int .i64 0] 23 (0, 0))) ∧ (w'.heap[gb291]? = some (.cells #[.int .i64 t287, .int .i64 t288] 23 (0, 0))) ∧ (w'.heap[gb292]? = some (.cells #[.int .i64 t289, .int .i64 t290] 23 (0, 0))) ∧ (w'.heap[s_]? = some (.cells #[.int .i64 0, .int .i64 0] 23 (0, 0))) ∧ (w.heap.size ≤ s_) ∧ (w.heap.size ≤ s_) ∧ (gb282 ≠ s_) ∧ (s_ ≠ gb282) ∧ (gb283 ≠ s_) ∧ (s_ ≠ gb283) ∧ (gb291 ≠ s_) ∧ (s_ ≠ gb291) ∧ (gb292 ≠ s_) ∧ (s_ ≠ gb292) ∧ (Below w.heap.size w w')) ?_ ?_
    rotate_left
    ·intro hCont
     refine two_ (i := 2) (j := 10) (Ni := some 38) (Nj := some 11) #[true, true, true, true, true, false, false, false, false, false, false, false, false] #[true, true, false, true, true, false, false, false, false, false, true, false, false] rfl rfl rfl rfl (two_of HT_.out (by kernel_rfl)) (by decide) (by decide) (fun K hK => ?_) (fun K hK => ?_)
     ·skip
      refine gS Try.func44 #[.int .i64 a0, .agg #[.int .i64 t289, .int .i64 t290]] ?_
      with_reducible refine (impl_scaled.calls kj3 a0 t289 t290 t293 t294 _ A18.out).mono ?_
      rintro e w37 ⟨rfl, hb⟩
      refine ⟨_, rfl, ?_⟩
      replace BK282 := bb (bk BK282) hb
      replace BK283 := bb (bk BK283) hb
      replace BK291 := bb (bk BK291) hb
      replace BK292 := bb (bk BK292) hb
      replace HB := hbb (hs_ HB) hb
      clear hb
      refine hK.out _ _ ⟨(blk_cell BK292.out 0).trans rfl, (blk_cell BK292.out 1).trans rfl, (blk_cell BK291.out 0).trans rfl, (blk_cell BK291.out 1).trans rfl⟩ (fun hHeld => ?_)
      clear hK K
      refine norm_ (a' := ?_) ?_ ?_
      rotate_left
      ·show Act.put _ (some 38) _ = _
       simp only [Act.put, List.setIfInBounds_toArray, List.set_cons_zero, List.set_cons_succ, i64_w, i32_w]
       rfl
      refine two_ (i := 5) (j := 10) (Ni := some 41) (Nj := some 11) #[true, true, true, true, true, true, false, false, false, false, false, false, false] #[true, true, true, true, true, false, false, false, false, false, true, false, false] rfl rfl rfl rfl (two_of HT_.out (by kernel_rfl)) (by decide) (by decide) (fun K hK => ?_) (fun K hK => ?_)
      ·skip
       refine gS Try.func44 #[.int .i64 a1, .agg #[.int .i64 t287, .int .i64 t288]] ?_
       with_reducible refine (impl_scaled.calls kj3 a1 t287 t288 t295 t296 _ A19.out).mono ?_
       rintro e w38 ⟨rfl, hb⟩
       refine ⟨_, rfl, ?_⟩
       replace BK282 := bb (bk BK282) hb
       replace BK283 := bb (bk BK283) hb
       replace BK291 := bb (bk BK291) hb
       replace BK292 := bb (bk BK292) hb
       replace HB := hbb (hs_ HB) hb
       clear hb
       refine hK.out _ _ ⟨(blk_cell BK292.out 0).trans rfl, (blk_cell BK292.out 1).trans rfl, (blk_cell BK291.out 0).trans rfl, (blk_cell BK291.out 1).trans rfl⟩ (fun hHeld => ?_)
       clear hK K
       refine norm_ (a' := ?_) ?_ ?_
       rotate_left
       ·show Act.put _ (some 41) _ = _
        simp only [Act.put, List.setIfInBounds_toArray, List.set_cons_zero, List.set_cons_succ, i64_w, i32_w]
        rfl
       refine two_ (i := 6) (j := 10) (Ni := some 42) (Nj := some 11) #[true, true, true, true, true, true, true, false, false, false, false, false, false] #[true, true, true, true, true, true, false, false, false, false, true, false, false] rfl rfl rfl rfl (two_of HT_.out (by kernel_rfl)) (by decide) (by decide) (fun K hK => ?_) (fun K hK => ?_)
       ·skip
        refine gS Try.func43 #[.agg #[.int .i64 t293, .int .i64 t294], .agg #[.int .i64 t295, .int .i64 t296]] ?_
        with_reducible refine (impl_SpanAdd.calls t293 t294 t295 t296 t297 t298 t299 _ A20.out).mono ?_
        rintro e w39 ⟨rfl, hb⟩
        refine ⟨_, rfl, ?_⟩
        replace BK282 := bb (bk BK282) hb
        replace BK283 := bb (bk BK283) hb
        replace BK291 := bb (bk BK291) hb
        replace BK292 := bb (bk BK292) hb
        replace HB := hbb (hs_ HB) hb
        clear hb
        refine hK.out _ _ ⟨(blk_cell BK292.out 0).trans rfl, (blk_cell BK292.out 1).trans rfl, (blk_cell BK291.out 0).trans rfl, (blk_cell BK291.out 1).trans rfl⟩ (fun hHeld => ?_)
        clear hK K
        refine norm_ (a' := ?_) ?_ ?_
        rotate_left
        ·show Act.put _ (some 42) _ = _
         simp only [Act.put, List.setIfInBounds_toArray, List.set_cons_zero, List.set_cons_succ, i64_w, i32_w]
         rfl
        refine pure_ (i := 7) (N := some 35) (v := ?_) (a' := ?_) #[true, true, true, true, true, true, true, true, false, false, false, false, false] rfl rfl (any_of HT_.out (by kernel_rfl)) (fun _ _ _ h => h) (Or.inl ⟨by rfl, ?_⟩) ?_ ?_
        rotate_left
        ·intro w'
         go_simp
         with_reducible rfl
        rotate_left
        ·simp only [Act.put, List.setIfInBounds_toArray, List.set_cons_zero, List.set_cons_succ, i64_w, i32_w]
         rfl
        refine pure_ (i := 8) (N := some 43) (v := ?_) (a' := ?_) #[true, true, true, true, true, true, true, true, true, false, false, false, false] rfl rfl (any_of HT_.out (by kernel_rfl)) (fun _ _ _ h => h) (Or.inl ⟨by rfl, ?_⟩) ?_ ?_
        rotate_left
        ·intro w'
         go_simp
         with_reducible rfl
        rotate_left
        ·simp only [Act.put, List.setIfInBounds_toArray, List.set_cons_zero, List.set_cons_succ, i64_w, i32_w]
         rfl
        refine pure_ (i := 9) (N := some 44) (v := ?_) (a' := ?_) #[true, true, true, true, true, true, true, true, true, true, false, false, false] rfl rfl (any_of HT_.out (by kernel_rfl)) (fun _ _ _ h => h) (Or.inl ⟨by rfl, ?_⟩) ?_ ?_
        rotate_left
        ·intro w'
         go_simp
         with_reducible rfl
        rotate_left
        ·simp only [Act.put, List.setIfInBounds_toArray, List.set_cons_zero, List.set_cons_succ, i64_w, i32_w]
         rfl
        refine one_ (i := 10) (N := some 11) #[true, true, true, true, true, true, true, true, true, true, true, false, false] rfl rfl (one_of HT_.out (by kernel_rfl)) (by decide) (fun K hK => ?_)
        refine bS 11 #[.int .i64 0, .int .i64 0] 23 ?_
        intro gb300 hg w40 hbox hb
        have BK300 := Aside0.mk (hbox)
        have GE300 := gw hg (hs_ HB)
        have GW300 := GE300
        have NB282_300 := nl hg (bk BK282)
        have NB300_282 := ng hg (bk BK282)
        have NB283_300 := nl hg (bk BK283)
        have NB300_283 := ng hg (bk BK283)
        have NB291_300 := nl hg (bk BK291)
        have NB300_291 := ng hg (bk BK291)
        have NB292_300 := nl hg (bk BK292)
        have NB300_292 := ng hg (bk BK292)
        replace BK282 := bb (bk BK282) hb
        replace BK283 := bb (bk BK283) hb
        replace BK291 := bb (bk BK291) hb
        replace BK292 := bb (bk BK292) hb
        replace HB := hbb (hs_ HB) hb
        clear hb hbox hg
        refine hK.out _ _ ⟨(blk_cell BK292.out 0).trans rfl, (blk_cell BK292.out 1).trans rfl, (blk_cell BK291.out 0).trans rfl, (blk_cell BK291.out 1).trans rfl⟩ (fun hHeld => ?_)
        clear hK K
        refine norm_ (a' := ?_) ?_ ?_
        rotate_left
        ·show Act.put _ (some 11) _ = _
         simp only [Act.put, List.setIfInBounds_toArray, List.set_cons_zero, List.set_cons_succ, i64_w, i32_w]
         rfl
        exact norm_ (by simp only [putAll, Act.put, List.setIfInBounds_toArray, List.set_cons_zero, List.set_cons_succ]) (hCont (gb300) _ ⟨hHeld, (bk BK282), (bk BK283), (bk BK291), (bk BK292), (bk BK300), GW300.out, GE300.out, NB282_300.out, NB300_282.out, NB283_300.out, NB300_283.out, NB291_300.out, NB300_291.out, NB292_300.out, NB300_292.out, (hs_ HB)⟩)
       ·skip
        refine bS 11 #[.int .i64 0, .int .i64 0] 23 ?_
        intro gb300 hg w39 hbox hb
        have BK300 := Aside0.mk (hbox)
        have GE300 := gw hg (hs_ HB)
        have GW300 := GE300
        have NB282_300 := nl hg (bk BK282)
        have NB300_282 := ng hg (bk BK282)
        have NB283_300 := nl hg (bk BK283)
        have NB300_283 := ng hg (bk BK283)
        have NB291_300 := nl hg (bk BK291)
        have NB300_291 := ng hg (bk BK291)
        have NB292_300 := nl hg (bk BK292)
        have NB300_292 := ng hg (bk BK292)
        replace BK282 := bb (bk BK282) hb
        replace BK283 := bb (bk BK283) hb
        replace BK291 := bb (bk BK291) hb
        replace BK292 := bb (bk BK292) hb
        replace HB := hbb (hs_ HB) hb
        clear hb hbox hg
        refine hK.out _ _ ⟨(blk_cell BK292.out 0).trans rfl, (blk_cell BK292.out 1).trans rfl, (blk_cell BK291.out 0).trans rfl, (blk_cell BK291.out 1).trans rfl⟩ (fun hHeld => ?_)
        clear hK K
        refine norm_ (a' := ?_) ?_ ?_
        rotate_left
        ·show Act.put _ (some 11) _ = _
         simp only [Act.put, List.setIfInBounds_toArray, List.set_cons_zero, List.set_cons_succ, i64_w, i32_w]
         rfl
        refine one_ (i := 6) (N := some 42) #[true, true, true, true, true, true, true, false, false, false, true, false, false] rfl rfl (one_of HT_.out (by kernel_rfl)) (by decide) (fun K hK => ?_)
        refine gS Try.func43 #[.agg #[.int .i64 t293, .int .i64 t294], .agg #[.int .i64 t295, .int .i64 t296]] ?_
        with_reducible refine (impl_SpanAdd.calls t293 t294 t295 t296 t297 t298 t299 _ A20.out).mono ?_
        rintro e w40 ⟨rfl, hb⟩
        refine ⟨_, rfl, ?_⟩
        replace BK282 := bb (bk BK282) hb
        replace BK283 := bb (bk BK283) hb
        replace BK291 := bb (bk BK291) hb
        replace BK292 := bb (bk BK292) hb
        replace BK300 := bb (bk BK300) hb
        replace HB := hbb (hs_ HB) hb
        clear hb
        refine hK.out _ _ ⟨(blk_cell BK292.out 0).trans rfl, (blk_cell BK292.out 1).trans rfl, (blk_cell BK291.out 0).trans rfl, (blk_cell BK291.out 1).trans rfl⟩ (fun hHeld => ?_)
        clear hK K
        refine norm_ (a' := ?_) ?_ ?_
        rotate_left
        ·show Act.put _ (some 42) _ = _
         simp only [Act.put, List.setIfInBounds_toArray, List.set_cons_zero, List.set_cons_succ, i64_w, i32_w]
         rfl
        refine pure_ (i := 7) (N := some 35) (v := ?_) (a' := ?_) #[true, true, true, true, true, true, true, true, false, false, true, false, false] rfl rfl (any_of HT_.out (by kernel_rfl)) (fun _ _ _ h => h) (Or.inl ⟨by rfl, ?_⟩) ?_ ?_
        rotate_left
        ·intro w'
         go_simp
         with_reducible rfl
        rotate_left
        ·simp only [Act.put, List.setIfInBounds_toArray, List.set_cons_zero, List.set_cons_succ, i64_w, i32_w]
         rfl
        refine pure_ (i := 8) (N := some 43) (v := ?_) (a' := ?_) #[true, true, true, true, true, true, true, true, true, false, true, false, false] rfl rfl (any_of HT_.out (by kernel_rfl)) (fun _ _ _ h => h) (Or.inl ⟨by rfl, ?_⟩) ?_ ?_
        rotate_left
        ·intro w'
         go_simp
         with_reducible rfl
        rotate_left
        ·simp only [Act.put, List.setIfInBounds_toArray, List.set_cons_zero, List.set_cons_succ, i64_w, i32_w]
         rfl
        refine pure_ (i := 9) (N := some 44) (v := ?_) (a' := ?_) #[true, true, true, true, true, true, true, true, true, true, true, false, false] rfl rfl (any_of HT_.out (by kernel_rfl)) (fun _ _ _ h => h) (Or.inl ⟨by rfl, ?_⟩) ?_ ?_
        rotate_left
        ·intro w'
         go_simp
         with_reducible rfl
        rotate_left
        ·simp only [Act.put, List.setIfInBounds_toArray, List.set_cons_zero, List.set_cons_succ, i64_w, i32_w]
         rfl
        exact norm_ (by simp only [putAll, Act.put, List.setIfInBounds_toArray, List.set_cons_zero, List.set_cons_succ]) (hCont (gb300) _ ⟨hHeld, (bk BK282), (bk BK283), (bk BK291), (bk BK292), (bk BK300), GW300.out, GE300.out, NB282_300.out, NB300_282.out, NB283_300.out, NB300_283.out, NB291_300.out, NB300_291.out, NB292_300.out, NB300_292.out, (hs_ HB)⟩)
      ·skip
       refine bS 11 #[.int .i64 0, .int .i64 0] 23 ?_
       intro gb300 hg w38 hbox hb
       have BK300 := Aside0.mk (hbox)
       have GE300 := gw hg (hs_ HB)
       have GW300 := GE300
       have NB282_300 := nl hg (bk BK282)
       have NB300_282 := ng hg (bk BK282)
       have NB283_300 := nl hg (bk BK283)
       have NB300_283 := ng hg (bk BK283)
       have NB291_300 := nl hg (bk BK291)
       have NB300_291 := ng hg (bk BK291)
       have NB292_300 := nl hg (bk BK292)
       have NB300_292 := ng hg (bk BK292)
       replace BK282 := bb (bk BK282) hb
       replace BK283 := bb (bk BK283) hb
       replace BK291 := bb (bk BK291) hb
       replace BK292 := bb (bk BK292) hb
       replace HB := hbb (hs_ HB) hb
       clear hb hbox hg
       refine hK.out _ _ ⟨(blk_cell BK292.out 0).trans rfl, (blk_cell BK292.out 1).trans rfl, (blk_cell BK291.out 0).trans rfl, (blk_cell BK291.out 1).trans rfl⟩ (fun hHeld => ?_)
       clear hK K
       refine norm_ (a' := ?_) ?_ ?_
       rotate_left
       ·show Act.put _ (some 11) _ = _
        simp only [Act.put, List.setIfInBounds_toArray, List.set_cons_zero, List.set_cons_succ, i64_w, i32_w]
        rfl
       refine one_ (i := 5) (N := some 41) #[true, true, true, true, true, true, false, false, false, false, true, false, false] rfl rfl (one_of HT_.out (by kernel_rfl)) (by decide) (fun K hK => ?_)
       refine gS Try.func44 #[.int .i64 a1, .agg #[.int .i64 t287, .int .i64 t288]] ?_
       with_reducible refine (impl_scaled.calls kj3 a1 t287 t288 t295 t296 _ A19.out).mono ?_
       rintro e w39 ⟨rfl, hb⟩
       refine ⟨_, rfl, ?_⟩
       replace BK282 := bb (bk BK282) hb
       replace BK283 := bb (bk BK283) hb
       replace BK291 := bb (bk BK291) hb
       replace BK292 := bb (bk BK292) hb
       replace BK300 := bb (bk BK300) hb
       replace HB := hbb (hs_ HB) hb
       clear hb
       refine hK.out _ _ ⟨(blk_cell BK292.out 0).trans rfl, (blk_cell BK292.out 1).trans rfl, (blk_cell BK291.out 0).trans rfl, (blk_cell BK291.out 1).trans rfl⟩ (fun hHeld => ?_)
       clear hK K
       refine norm_ (a' := ?_) ?_ ?_
       rotate_left
       ·show Act.put _ (some 41) _ = _
        simp only [Act.put, List.setIfInBounds_toArray, List.set_cons_zero, List.set_cons_succ, i64_w, i32_w]
        rfl
       refine one_ (i := 6) (N := some 42) #[true, true, true, true, true, true, true, false, false, false, true, false, false] rfl rfl (one_of HT_.out (by kernel_rfl)) (by decide) (fun K hK => ?_)
       refine gS Try.func43 #[.agg #[.int .i64 t293, .int .i64 t294], .agg #[.int .i64 t295, .int .i64 t296]] ?_
       with_reducible refine (impl_SpanAdd.calls t293 t294 t295 t296 t297 t298 t299 _ A20.out).mono ?_
       rintro e w40 ⟨rfl, hb⟩
       refine ⟨_, rfl, ?_⟩
       replace BK282 := bb (bk BK282) hb
       replace BK283 := bb (bk BK283) hb
       replace BK291 := bb (bk BK291) hb
       replace BK292 := bb (bk BK292) hb
       replace BK300 := bb (bk BK300) hb
       replace HB := hbb (hs_ HB) hb
       clear hb
       refine hK.out _ _ ⟨(blk_cell BK292.out 0).trans rfl, (blk_cell BK292.out 1).trans rfl, (blk_cell BK291.out 0).trans rfl, (blk_cell BK291.out 1).trans rfl⟩ (fun hHeld => ?_)
       clear hK K
       refine norm_ (a' := ?_) ?_ ?_
       rotate_left
       ·show Act.put _ (some 42) _ = _
        simp only [Act.put, List.setIfInBounds_toArray, List.set_cons_zero, List.set_cons_succ, i64_w, i32_w]
        rfl
       refine pure_ (i := 7) (N := some 35) (v := ?_) (a' := ?_) #[true, true, true, true, true, true, true, true, false, false, true, false, false] rfl rfl (any_of HT_.out (by kernel_rfl)) (fun _ _ _ h => h) (Or.inl ⟨by rfl, ?_⟩) ?_ ?_
       rotate_left
       ·intro w'
        go_simp
        with_reducible rfl
       rotate_left
       ·simp only [Act.put, List.setIfInBounds_toArray, List.set_cons_zero, List.set_cons_succ, i64_w, i32_w]
        rfl
       refine pure_ (i := 8) (N := some 43) (v := ?_) (a' := ?_) #[true, true, true, true, true, true, true, true, true, false, true, false, false] rfl rfl (any_of HT_.out (by kernel_rfl)) (fun _ _ _ h => h) (Or.inl ⟨by rfl, ?_⟩) ?_ ?_
       rotate_left
       ·intro w'
        go_simp
        with_reducible rfl
       rotate_left
       ·simp only [Act.put, List.setIfInBounds_toArray, List.set_cons_zero, List.set_cons_succ, i64_w, i32_w]
        rfl
       refine pure_ (i := 9) (N := some 44) (v := ?_) (a' := ?_) #[true, true, true, true, true, true, true, true, true, true, true, false, false] rfl rfl (any_of HT_.out (by kernel_rfl)) (fun _ _ _ h => h) (Or.inl ⟨by rfl, ?_⟩) ?_ ?_
       rotate_left
       ·intro w'
        go_simp
        with_reducible rfl
       rotate_left
       ·simp only [Act.put, List.setIfInBounds_toArray, List.set_cons_zero, List.set_cons_succ, i64_w, i32_w]
        rfl
       exact norm_ (by simp only [putAll, Act.put, List.setIfInBounds_toArray, List.set_cons_zero, List.set_cons_succ]) (hCont (gb300) _ ⟨hHeld, (bk BK282), (bk BK283), (bk BK291), (bk BK292), (bk BK300), GW300.out, GE300.out, NB282_300.out, NB300_282.out, NB283_300.out, NB300_283.out, NB291_300.out, NB300_291.out, NB292_300.out, NB300_292.out, (hs_ HB)⟩)
     ·skip
      refine bS 11 #[.int .i64 0, .int .i64 0] 23 ?_
      intro gb300 hg w37 hbox hb
      have BK300 := Aside0.mk (hbox)
      have GE300 := gw hg (hs_ HB)
      have GW300 := GE300
      have NB282_300 := nl hg (bk BK282)
      have NB300_282 := ng hg (bk BK282)
      have NB283_300 := nl hg (bk BK283)
      have NB300_283 := ng hg (bk BK283)
      have NB291_300 := nl hg (bk BK291)
      have NB300_291 := ng hg (bk BK291)
      have NB292_300 := nl hg (bk BK292)
      have NB300_292 := ng hg (bk BK292)
      replace BK282 := bb (bk BK282) hb
      replace BK283 := bb (bk BK283) hb
      replace BK291 := bb (bk BK291) hb
      replace BK292 := bb (bk BK292) hb
      replace HB := hbb (hs_ HB) hb
      clear hb hbox hg
      refine hK.out _ _ ⟨(blk_cell BK292.out 0).trans rfl, (blk_cell BK292.out 1).trans rfl, (blk_cell BK291.out 0).trans rfl, (blk_cell BK291.out 1).trans rfl⟩ (fun hHeld => ?_)
      clear hK K
      refine norm_ (a' := ?_) ?_ ?_
      rotate_left
      ·show Act.put _ (some 11) _ = _
       simp only [Act.put, List.setIfInBounds_toArray, List.set_cons_zero, List.set_cons_succ, i64_w, i32_w]
       rfl
      refine one_ (i := 2) (N := some 38) #[true, true, true, true, true, false, false, false, false, false, true, false, false] rfl rfl (one_of HT_.out (by kernel_rfl)) (by decide) (fun K hK => ?_)
      refine gS Try.func44 #[.int .i64 a0, .agg #[.int .i64 t289, .int .i64 t290]] ?_
      with_reducible refine (impl_scaled.calls kj3 a0 t289 t290 t293 t294 _ A18.out).mono ?_
      rintro e w38 ⟨rfl, hb⟩
      refine ⟨_, rfl, ?_⟩
      replace BK282 := bb (bk BK282) hb
      replace BK283 := bb (bk BK283) hb
      replace BK291 := bb (bk BK291) hb
      replace BK292 := bb (bk BK292) hb
      replace BK300 := bb (bk BK300) hb
      replace HB := hbb (hs_ HB) hb
      clear hb
      refine hK.out _ _ ⟨(blk_cell BK292.out 0).trans rfl, (blk_cell BK292.out 1).trans rfl, (blk_cell BK291.out 0).trans rfl, (blk_cell BK291.out 1).trans rfl⟩ (fun hHeld => ?_)
      clear hK K
      refine norm_ (a' := ?_) ?_ ?_
      rotate_left
      ·show Act.put _ (some 38) _ = _
       simp only [Act.put, List.setIfInBounds_toArray, List.set_cons_zero, List.set_cons_succ, i64_w, i32_w]
       rfl
      refine one_ (i := 5) (N := some 41) #[true, true, true, true, true, true, false, false, false, false, true, false, false] rfl rfl (one_of HT_.out (by kernel_rfl)) (by decide) (fun K hK => ?_)
      refine gS Try.func44 #[.int .i64 a1, .agg #[.int .i64 t287, .int .i64 t288]] ?_
      with_reducible refine (impl_scaled.calls kj3 a1 t287 t288 t295 t296 _ A19.out).mono ?_
      rintro e w39 ⟨rfl, hb⟩
      refine ⟨_, rfl, ?_⟩
      replace BK282 := bb (bk BK282) hb
      replace BK283 := bb (bk BK283) hb
      replace BK291 := bb (bk BK291) hb
      replace BK292 := bb (bk BK292) hb
      replace BK300 := bb (bk BK300) hb
      replace HB := hbb (hs_ HB) hb
      clear hb
      refine hK.out _ _ ⟨(blk_cell BK292.out 0).trans rfl, (blk_cell BK292.out 1).trans rfl, (blk_cell BK291.out 0).trans rfl, (blk_cell BK291.out 1).trans rfl⟩ (fun hHeld => ?_)
      clear hK K
      refine norm_ (a' := ?_) ?_ ?_
      rotate_left
      ·show Act.put _ (some 41) _ = _
       simp only [Act.put, List.setIfInBounds_toArray, List.set_cons_zero, List.set_cons_succ, i64_w, i32_w]
       rfl
      refine one_ (i := 6) (N := some 42) #[true, true, true, true, true, true, true, false, false, false, true, false, false] rfl rfl (one_of HT_.out (by kernel_rfl)) (by decide) (fun K hK => ?_)
      refine gS Try.func43 #[.agg #[.int .i64 t293, .int .i64 t294], .agg #[.int .i64 t295, .int .i64 t296]] ?_
      with_reducible refine (impl_SpanAdd.calls t293 t294 t295 t296 t297 t298 t299 _ A20.out).mono ?_
      rintro e w40 ⟨rfl, hb⟩
      refine ⟨_, rfl, ?_⟩
      replace BK282 := bb (bk BK282) hb
      replace BK283 := bb (bk BK283) hb
      replace BK291 := bb (bk BK291) hb
      replace BK292 := bb (bk BK292) hb
      replace BK300 := bb (bk BK300) hb
      replace HB := hbb (hs_ HB) hb
      clear hb
      refine hK.out _ _ ⟨(blk_cell BK292.out 0).trans rfl, (blk_cell BK292.out 1).trans rfl, (blk_cell BK291.out 0).trans rfl, (blk_cell BK291.out 1).trans rfl⟩ (fun hHeld => ?_)
      clear hK K
      refine norm_ (a' := ?_) ?_ ?_
      rotate_left
      ·show Act.put _ (some 42) _ = _
       simp only [Act.put, List.setIfInBounds_toArray, List.set_cons_zero, List.set_cons_succ, i64_w, i32_w]
       rfl
      refine pure_ (i := 7) (N := some 35) (v := ?_) (a' := ?_) #[true, true, true, true, true, true, true, true, false, false, true, false, false] rfl rfl (any_of HT_.out (by kernel_rfl)) (fun _ _ _ h => h) (Or.inl ⟨by rfl, ?_⟩) ?_ ?_
      rotate_left
      ·intro w'
       go_simp
       with_reducible rfl
      rotate_left
      ·simp only [Act.put, List.setIfInBounds_toArray, List.set_cons_zero, List.set_cons_succ, i64_w, i32_w]
       rfl
      refine pure_ (i := 8) (N := some 43) (v := ?_) (a' := ?_) #[true, true, true, true, true, true, true, true, true, false, true, false, false] rfl rfl (any_of HT_.out (by kernel_rfl)) (fun _ _ _ h => h) (Or.inl ⟨by rfl, ?_⟩) ?_ ?_
      rotate_left
      ·intro w'
       go_simp
       with_reducible rfl
      rotate_left
      ·simp only [Act.put, List.setIfInBounds_toArray, List.set_cons_zero, List.set_cons_succ, i64_w, i32_w]
       rfl
      refine pure_ (i := 9) (N := some 44) (v := ?_) (a' := ?_) #[true, true, true, true, true, true, true, true, true, true, true, false, false] rfl rfl (any_of HT_.out (by kernel_rfl)) (fun _ _ _ h => h) (Or.inl ⟨by rfl, ?_⟩) ?_ ?_
      rotate_left
      ·intro w'
       go_simp
       with_reducible rfl
      rotate_left
      ·simp only [Act.put, List.setIfInBounds_toArray, List.set_cons_zero, List.set_cons_succ, i64_w, i32_w]
       rfl
      exact norm_ (by simp only [putAll, Act.put, List.setIfInBounds_toArray, List.set_cons_zero, List.set_cons_succ]) (hCont (gb300) _ ⟨hHeld, (bk BK282), (bk BK283), (bk BK291), (bk BK292), (bk BK300), GW300.out, GE300.out, NB282_300.out, NB300_282.out, NB283_300.out, NB300_283.out, NB291_300.out, NB300_291.out, NB292_300.out, NB300_292.out, (hs_ HB)⟩)
    rintro gb300 w41 ⟨hS_, h0_, h1_, h2_, h3_, h4_, h5_, h6_, h7_, h8_, h9_, h10_, h11_, h12_, h13_, h14_, h15_⟩
    have n0_ : Aside0 (w41.heap[gb282]? = some (.cells #[.int .i64 0, .int .i64 0] 23 (0, 0))) := ⟨h0_⟩
    have n1_ : Aside0 (w41.heap[gb283]? = some (.cells #[.int .i64 0, .int .i64 0] 23 (0, 0))) := ⟨h1_⟩
    have n2_ : Aside0 (w41.heap[gb291]? = some (.cells #[.int .i64 t287, .int .i64 t288] 23 (0, 0))) := ⟨h2_⟩
    have n3_ : Aside0 (w41.heap[gb292]? = some (.cells #[.int .i64 t289, .int .i64 t290] 23 (0, 0))) := ⟨h3_⟩
    have n4_ : Aside0 (w41.heap[gb300]? = some (.cells #[.int .i64 0, .int .i64 0] 23 (0, 0))) := ⟨h4_⟩
    have n5_ : Aside0 (w.heap.size ≤ gb300) := ⟨h5_⟩
    have n6_ : Aside0 (w.heap.size ≤ gb300) := ⟨h6_⟩
    have n7_ : Aside0 (gb282 ≠ gb300) := ⟨h7_⟩
    have n8_ : Aside0 (gb300 ≠ gb282) := ⟨h8_⟩
    have n9_ : Aside0 (gb283 ≠ gb300) := ⟨h9_⟩
    have n10_ : Aside0 (gb300 ≠ gb283) := ⟨h10_⟩
    have n11_ : Aside0 (gb291 ≠ gb300) := ⟨h11_⟩
    have n12_ : Aside0 (gb300 ≠ gb291) := ⟨h12_⟩
    have n13_ : Aside0 (gb292 ≠ gb300) := ⟨h13_⟩
    have n14_ : Aside0 (gb300 ≠ gb292) := ⟨h14_⟩
    have n15_ : Aside0 (Below w.heap.size w w41) := ⟨h15_⟩
    clear BK282
    clear BK283
    clear BK291
    clear BK292
    clear HB
    clear h0_ h1_ h2_ h3_ h4_ h5_ h6_ h7_ h8_ h9_ h10_ h11_ h12_ h13_ h14_ h15_
    have BK282 := n0_
    have BK283 := n1_
    have BK291 := n2_
    have BK292 := n3_
    have BK300 := n4_
    have GW300 := n5_
    have GE300 := n6_
    have NB282_300 := n7_
    have NB300_282 := n8_
    have NB283_300 := n9_
    have NB300_283 := n10_
    have NB291_300 := n11_
    have NB300_291 := n12_
    have NB292_300 := n13_
    have NB300_292 := n14_
    have HB := n15_
    clear n0_ n1_ n2_ n3_ n4_ n5_ n6_ n7_ n8_ n9_ n10_ n11_ n12_ n13_ n14_ n15_
    have hHeld : w41.cell? ⟨gb292, 0, none⟩ = some (.int .i64 t289) ∧ w41.cell? ⟨gb292, 1, none⟩ = some (.int .i64 t290) ∧ w41.cell? ⟨gb291, 0, none⟩ = some (.int .i64 t287) ∧ w41.cell? ⟨gb291, 1, none⟩ = some (.int .i64 t288) := hS_
    refine norm_ (a' := ?_) ?_ ?_
    rotate_left
    ·simp only [putAll, Act.put, List.setIfInBounds_toArray, List.set_cons_zero, List.set_cons_succ]
     rfl
    refine one_ (i := 11) (N := none) #[true, true, true, true, true, true, true, true, true, true, true, true, false] rfl rfl (one_of HT_.out (by kernel_rfl)) (by decide) (fun K hK => ?_)
    have hs42 : w41.cell? ⟨gb300, 0, none⟩ = some (.int .i64 0) := (blk_cell BK300.out 0).trans rfl
    have hfs42 := blk_frozen BK300.out 0
    have hns42_0 := NB282_300.out
    have hns42_1 := NB283_300.out
    have hns42_2 := NB291_300.out
    have hns42_3 := NB292_300.out
    have hms42_0 := NB300_282.out
    have hms42_1 := NB300_283.out
    have hms42_2 := NB300_291.out
    have hms42_3 := NB300_292.out
    have hs43 : w41.cell? ⟨gb300, 1, none⟩ = some (.int .i64 0) := (blk_cell BK300.out 1).trans rfl
    have hfs43 := blk_frozen BK300.out 1
    have hns43_0 := NB282_300.out
    have hns43_1 := NB283_300.out
    have hns43_2 := NB291_300.out
    have hns43_3 := NB292_300.out
    have hms43_0 := NB300_282.out
    have hms43_1 := NB300_283.out
    have hms43_2 := NB300_291.out
    have hms43_3 := NB300_292.out
    refine skip_ (w1 := ?_) (by rfl) rfl ?_ ?_
    rotate_left
    ·go_simp
     rfl
    refine hK.out _ _ ⟨((cell_far (p := ⟨gb300, _, none⟩) NB292_300.out _).trans (((cell_far (p := ⟨gb300, _, none⟩) NB292_300.out _).trans (hHeld.1)))), ((cell_far (p := ⟨gb300, _, none⟩) NB292_300.out _).trans (((cell_far (p := ⟨gb300, _, none⟩) NB292_300.out _).trans (hHeld.2.1)))), ((cell_far (p := ⟨gb300, _, none⟩) NB291_300.out _).trans (((cell_far (p := ⟨gb300, _, none⟩) NB291_300.out _).trans (hHeld.2.2.1)))), ((cell_far (p := ⟨gb300, _, none⟩) NB291_300.out _).trans (((cell_far (p := ⟨gb300, _, none⟩) NB291_300.out _).trans (hHeld.2.2.2))))⟩ (fun hHeld => ?_)
    clear hK K
    refine pure_ (i := 12) (N := some 12) (v := ?_) (a' := ?_) #[true, true, true, true, true, true, true, true, true, true, true, true, true] rfl rfl (any_of HT_.out (by kernel_rfl)) (fun _ _ _ h => h) (Or.inl ⟨by rfl, ?_⟩) ?_ ?_
    rotate_left
    ·intro w'
     go_simp
     with_reducible rfl
    rotate_left
    ·simp only [Act.put, List.setIfInBounds_toArray, List.set_cons_zero, List.set_cons_succ, i64_w, i32_w]
     rfl
    refine done_ (done_of HT_.out (by kernel_rfl)) ?_
    try go_wp2
    have n0_ : Aside0 (((w41.setCell ⟨gb300, 0, none⟩ (.int .i64 t297)).setCell ⟨gb300, 1, none⟩ (.int .i64 t298)).heap[gb282]? = some (.cells #[.int .i64 0, .int .i64 0] 23 (0, 0))) := ⟨bk1 BK282 NB282_300⟩
    have n1_ : Aside0 (((w41.setCell ⟨gb300, 0, none⟩ (.int .i64 t297)).setCell ⟨gb300, 1, none⟩ (.int .i64 t298)).heap[gb283]? = some (.cells #[.int .i64 0, .int .i64 0] 23 (0, 0))) := ⟨bk1 BK283 NB283_300⟩
    have n2_ : Aside0 (((w41.setCell ⟨gb300, 0, none⟩ (.int .i64 t297)).setCell ⟨gb300, 1, none⟩ (.int .i64 t298)).heap[gb291]? = some (.cells #[.int .i64 t287, .int .i64 t288] 23 (0, 0))) := ⟨bk1 BK291 NB291_300⟩
    have n3_ : Aside0 (((w41.setCell ⟨gb300, 0, none⟩ (.int .i64 t297)).setCell ⟨gb300, 1, none⟩ (.int .i64 t298)).heap[gb292]? = some (.cells #[.int .i64 t289, .int .i64 t290] 23 (0, 0))) := ⟨bk1 BK292 NB292_300⟩
    have n4_ : Aside0 (((w41.setCell ⟨gb300, 0, none⟩ (.int .i64 t297)).setCell ⟨gb300, 1, none⟩ (.int .i64 t298)).heap[gb300]? = some (.cells #[.int .i64 t297, .int .i64 t298] 23 (0, 0))) := ⟨bkp BK300⟩
    have n5_ : Aside0 (Below w.heap.size w ((w41.setCell ⟨gb300, 0, none⟩ (.int .i64 t297)).setCell ⟨gb300, 1, none⟩ (.int .i64 t298))) := ⟨hs_ HB⟩
    (try clear BK282)
    (try clear BK283)
    (try clear BK291)
    (try clear BK292)
    (try clear BK300)
    (try clear HB)
    generalize ((w41.setCell ⟨gb300, 0, none⟩ (.int .i64 t297)).setCell ⟨gb300, 1, none⟩ (.int .i64 t298)) = w44 at n0_ n1_ n2_ n3_ n4_ n5_ ⊢
    have BK282 := n0_
    have BK283 := n1_
    have BK291 := n2_
    have BK292 := n3_
    have BK300 := n4_
    have HB := n5_
    clear n0_ n1_ n2_ n3_ n4_ n5_
    replace BK282 := Aside0.mk (blk_drew BK282.out)
    replace BK283 := Aside0.mk (blk_drew BK283.out)
    replace BK291 := Aside0.mk (blk_drew BK291.out)
    replace BK292 := Aside0.mk (blk_drew BK292.out)
    replace BK300 := Aside0.mk (blk_drew BK300.out)
    replace HB := Aside0.mk (below_drew1 HB.out)
    refine start_ (n := 13) (S := fun w' => w'.cell? ⟨gb292, 0, none⟩ = some (.int .i64 t289) ∧ w'.cell? ⟨gb292, 1, none⟩ = some (.int .i64 t290) ∧ w'.cell? ⟨gb291, 0, none⟩ = some (.int .i64 t287) ∧ w'.cell? ⟨gb291, 1, none⟩ = some (.int .i64 t288)) (ds := []) #[false, false, false, false, false, false, false, false, false, false, false, false, false] (by kernel_rfl) rfl rfl ⟨(blk_cell BK292.out 0).trans rfl, (blk_cell BK292.out 1).trans rfl, (blk_cell BK291.out 0).trans rfl, (blk_cell BK291.out 1).trans rfl⟩ (fun hHeld => ?_); refine with_tabW impl_TurnBy.tab5 impl_TurnBy.bits5 (fun HT_ HW_ => ?_)
    generalize w44.drew = w45 at BK282 BK283 BK291 BK292 BK300 HB hHeld ⊢
    refine pure_ (i := 0) (N := some 46) (v := ?_) (a' := ?_) #[true, false, false, false, false, false, false, false, false, false, false, false, false] rfl rfl (any_of HT_.out (by kernel_rfl)) (fun _ _ _ h => h) (Or.inl ⟨by rfl, ?_⟩) ?_ ?_
    rotate_left
    ·intro w'
     go_simp
     with_reducible rfl
    rotate_left
    ·simp only [Act.put, List.setIfInBounds_toArray, List.set_cons_zero, List.set_cons_succ, i64_w, i32_w]
     rfl
    refine pure_ (i := 3) (N := some 49) (v := ?_) (a' := ?_) #[true, false, false, true, false, false, false, false, false, false, false, false, false] rfl rfl (any_of HT_.out (by kernel_rfl)) (fun _ _ _ h => h) (Or.inl ⟨by rfl, ?_⟩) ?_ ?_
    rotate_left
    ·intro w'
     go_simp
     with_reducible rfl
    rotate_left
    ·simp only [Act.put, List.setIfInBounds_toArray, List.set_cons_zero, List.set_cons_succ, i64_w, i32_w]
     rfl
    refine take_ (i := 1) (N := some 47) (v := ?_) (a' := ?_) #[true, true, false, true, false, false, false, false, false, false, false, false, false] rfl rfl (take_ofW HT_.out HW_.out (by kernel_rfl)) (fun _ _ _ h => h) (Or.inl ⟨by rfl, ?_⟩) hHeld ?_ ?_
    rotate_left
    ·rintro w' ⟨s0, s1, s2, s3⟩
     go_simp
     with_reducible rfl
    rotate_left
    ·simp only [Act.put, List.setIfInBounds_toArray, List.set_cons_zero, List.set_cons_succ, i64_w, i32_w]
     rfl
    refine take_ (i := 4) (N := some 50) (v := ?_) (a' := ?_) #[true, true, false, true, true, false, false, false, false, false, false, false, false] rfl rfl (take_ofW HT_.out HW_.out (by kernel_rfl)) (fun _ _ _ h => h) (Or.inl ⟨by rfl, ?_⟩) hHeld ?_ ?_
    rotate_left
    ·rintro w' ⟨s0, s1, s2, s3⟩
     go_simp
     with_reducible rfl
    rotate_left
    ·simp only [Act.put, List.setIfInBounds_toArray, List.set_cons_zero, List.set_cons_succ, i64_w, i32_w]
     rfl
    refine join_ (σ := Nat) 2 #[true, true, true, true, true, true, true, true, true, true, true, false, false] (fun s_ => [(48, .agg #[.int .i64 t301, .int .i64 t302]), (51, .agg #[.int .i64 t303, .int .i64 t304]), (52, .tuple #[.agg #[.int .i64 t305, .int .i64 t306], .bool t307]), (13, .pointer (some ⟨s_, 0, none⟩)), (45, .tuple #[.agg #[.int .i64 t305, .int .i64 t306], .bool t307]), (53, .agg #[.int .i64 t305, .int .i64 t306]), (54, .bool t307)]) (fun s_ w' => (w'.cell? ⟨gb292, 0, none⟩ = some (.int .i64 t289) ∧ w'.cell? ⟨gb292, 1, none⟩ = some (.int .i64 t290) ∧ w'.cell? ⟨gb291, 0, none⟩ = some (.int .i64 t287) ∧ w'.cell? ⟨gb291, 1, none⟩ = some (.int .i64 t288)) ∧ (w'.heap[gb282]? = some (.cells #[.int .i64 0, .int .i64 0] 23 (0, 0))) ∧ (w'.heap[gb283]? = some (.cells #[.int .i64 0, .int .i64 0] 23 (0, 0))) ∧ (w'.heap[gb291]? = some (.cells #[.int .i64 t287, .int .i64 t288] 23 (0, 0))) ∧ (w'.heap[gb292]? = some (.cells #[.int .i64 t289, .int .i64 t290] 23 (0, 0))) ∧ (w'.heap[gb300]? = some (.cells #[.int .i64 t297, .int .i64 t298] 23 (0, 0))) ∧ (w'.heap[s_]? = some (.cells #[.int .i64 0, .int .i64 0] 23 (0, 0))) ∧ (w.heap.size ≤ s_) ∧ (w.heap.size ≤ s_) ∧ (gb282 ≠ s_) ∧ (s_ ≠ gb282) ∧ (gb283 ≠ s_) ∧ (s_ ≠ gb283) ∧ (gb291 ≠ s_) ∧ (s_ ≠ gb291) ∧ (gb292 ≠ s_) ∧ (s_ ≠ gb292) ∧ (gb300 ≠ s_) ∧ (s_ ≠ gb300) ∧ (Below w.heap.size w w')) ?_ ?_
    rotate_left
    ·intro hCont
     refine two_ (i := 2) (j := 10) (Ni := some 48) (Nj := some 13) #[true, true, true, true, true, false, false, false, false, false, false, false, false] #[true, true, false, true, true, false, false, false, false, false, true, false, false] rfl rfl rfl rfl (two_of HT_.out (by kernel_rfl)) (by decide) (by decide) (fun K hK => ?_) (fun K hK => ?_)
     ·skip
      refine gS Try.func44 #[.int .i64 a1, .agg #[.int .i64 t289, .int .i64 t290]] ?_
      with_reducible refine (impl_scaled.calls kj3 a1 t289 t290 t301 t302 _ A21.out).mono ?_
      rintro e w46 ⟨rfl, hb⟩
      refine ⟨_, rfl, ?_⟩
      replace BK282 := bb (bk BK282) hb
      replace BK283 := bb (bk BK283) hb
      replace BK291 := bb (bk BK291) hb
      replace BK292 := bb (bk BK292) hb
      replace BK300 := bb (bk BK300) hb
      replace HB := hbb (hs_ HB) hb
      clear hb
      refine hK.out _ _ ⟨(blk_cell BK292.out 0).trans rfl, (blk_cell BK292.out 1).trans rfl, (blk_cell BK291.out 0).trans rfl, (blk_cell BK291.out 1).trans rfl⟩ (fun hHeld => ?_)
      clear hK K
      refine norm_ (a' := ?_) ?_ ?_
      rotate_left
      ·show Act.put _ (some 48) _ = _
       simp only [Act.put, List.setIfInBounds_toArray, List.set_cons_zero, List.set_cons_succ, i64_w, i32_w]
       rfl
      refine two_ (i := 5) (j := 10) (Ni := some 51) (Nj := some 13) #[true, true, true, true, true, true, false, false, false, false, false, false, false] #[true, true, true, true, true, false, false, false, false, false, true, false, false] rfl rfl rfl rfl (two_of HT_.out (by kernel_rfl)) (by decide) (by decide) (fun K hK => ?_) (fun K hK => ?_)
      ·skip
       refine gS Try.func44 #[.int .i64 a0, .agg #[.int .i64 t287, .int .i64 t288]] ?_
       with_reducible refine (impl_scaled.calls kj3 a0 t287 t288 t303 t304 _ A22.out).mono ?_
       rintro e w47 ⟨rfl, hb⟩
       refine ⟨_, rfl, ?_⟩
       replace BK282 := bb (bk BK282) hb
       replace BK283 := bb (bk BK283) hb
       replace BK291 := bb (bk BK291) hb
       replace BK292 := bb (bk BK292) hb
       replace BK300 := bb (bk BK300) hb
       replace HB := hbb (hs_ HB) hb
       clear hb
       refine hK.out _ _ ⟨(blk_cell BK292.out 0).trans rfl, (blk_cell BK292.out 1).trans rfl, (blk_cell BK291.out 0).trans rfl, (blk_cell BK291.out 1).trans rfl⟩ (fun hHeld => ?_)
       clear hK K
       refine norm_ (a' := ?_) ?_ ?_
       rotate_left
       ·show Act.put _ (some 51) _ = _
        simp only [Act.put, List.setIfInBounds_toArray, List.set_cons_zero, List.set_cons_succ, i64_w, i32_w]
        rfl
       refine two_ (i := 6) (j := 10) (Ni := some 52) (Nj := some 13) #[true, true, true, true, true, true, true, false, false, false, false, false, false] #[true, true, true, true, true, true, false, false, false, false, true, false, false] rfl rfl rfl rfl (two_of HT_.out (by kernel_rfl)) (by decide) (by decide) (fun K hK => ?_) (fun K hK => ?_)
       ·skip
        refine gS Try.func45 #[.agg #[.int .i64 t301, .int .i64 t302], .agg #[.int .i64 t303, .int .i64 t304]] ?_
        with_reducible refine (impl_SpanSub.calls t301 t302 t303 t304 t305 t306 t307 _ A23.out).mono ?_
        rintro e w48 ⟨rfl, hb⟩
        refine ⟨_, rfl, ?_⟩
        replace BK282 := bb (bk BK282) hb
        replace BK283 := bb (bk BK283) hb
        replace BK291 := bb (bk BK291) hb
        replace BK292 := bb (bk BK292) hb
        replace BK300 := bb (bk BK300) hb
        replace HB := hbb (hs_ HB) hb
        clear hb
        refine hK.out _ _ ⟨(blk_cell BK292.out 0).trans rfl, (blk_cell BK292.out 1).trans rfl, (blk_cell BK291.out 0).trans rfl, (blk_cell BK291.out 1).trans rfl⟩ (fun hHeld => ?_)
        clear hK K
        refine norm_ (a' := ?_) ?_ ?_
        rotate_left
        ·show Act.put _ (some 52) _ = _
         simp only [Act.put, List.setIfInBounds_toArray, List.set_cons_zero, List.set_cons_succ, i64_w, i32_w]
         rfl
        refine pure_ (i := 7) (N := some 45) (v := ?_) (a' := ?_) #[true, true, true, true, true, true, true, true, false, false, false, false, false] rfl rfl (any_of HT_.out (by kernel_rfl)) (fun _ _ _ h => h) (Or.inl ⟨by rfl, ?_⟩) ?_ ?_
        rotate_left
        ·intro w'
         go_simp
         with_reducible rfl
        rotate_left
        ·simp only [Act.put, List.setIfInBounds_toArray, List.set_cons_zero, List.set_cons_succ, i64_w, i32_w]
         rfl
        refine pure_ (i := 8) (N := some 53) (v := ?_) (a' := ?_) #[true, true, true, true, true, true, true, true, true, false, false, false, false] rfl rfl (any_of HT_.out (by kernel_rfl)) (fun _ _ _ h => h) (Or.inl ⟨by rfl, ?_⟩) ?_ ?_
        rotate_left
        ·intro w'
         go_simp
         with_reducible rfl
        rotate_left
        ·simp only [Act.put, List.setIfInBounds_toArray, List.set_cons_zero, List.set_cons_succ, i64_w, i32_w]
         rfl
        refine pure_ (i := 9) (N := some 54) (v := ?_) (a' := ?_) #[true, true, true, true, true, true, true, true, true, true, false, false, false] rfl rfl (any_of HT_.out (by kernel_rfl)) (fun _ _ _ h => h) (Or.inl ⟨by rfl, ?_⟩) ?_ ?_
        rotate_left
        ·intro w'
         go_simp
         with_reducible rfl
        rotate_left
        ·simp only [Act.put, List.setIfInBounds_toArray, List.set_cons_zero, List.set_cons_succ, i64_w, i32_w]
         rfl
        refine one_ (i := 10) (N := some 13) #[true, true, true, true, true, true, true, true, true, true, true, false, false] rfl rfl (one_of HT_.out (by kernel_rfl)) (by decide) (fun K hK => ?_)
        refine bS 13 #[.int .i64 0, .int .i64 0] 23 ?_
        intro gb308 hg w49 hbox hb
        have BK308 := Aside0.mk (hbox)
        have GE308 := gw hg (hs_ HB)
        have GW308 := GE308
        have NB282_308 := nl hg (bk BK282)
        have NB308_282 := ng hg (bk BK282)
        have NB283_308 := nl hg (bk BK283)
        have NB308_283 := ng hg (bk BK283)
        have NB291_308 := nl hg (bk BK291)
        have NB308_291 := ng hg (bk BK291)
        have NB292_308 := nl hg (bk BK292)
        have NB308_292 := ng hg (bk BK292)
        have NB300_308 := nl hg (bk BK300)
        have NB308_300 := ng hg (bk BK300)
        replace BK282 := bb (bk BK282) hb
        replace BK283 := bb (bk BK283) hb
        replace BK291 := bb (bk BK291) hb
        replace BK292 := bb (bk BK292) hb
        replace BK300 := bb (bk BK300) hb
        replace HB := hbb (hs_ HB) hb
        clear hb hbox hg
        refine hK.out _ _ ⟨(blk_cell BK292.out 0).trans rfl, (blk_cell BK292.out 1).trans rfl, (blk_cell BK291.out 0).trans rfl, (blk_cell BK291.out 1).trans rfl⟩ (fun hHeld => ?_)
        clear hK K
        refine norm_ (a' := ?_) ?_ ?_
        rotate_left
        ·show Act.put _ (some 13) _ = _
         simp only [Act.put, List.setIfInBounds_toArray, List.set_cons_zero, List.set_cons_succ, i64_w, i32_w]
         rfl
        exact norm_ (by simp only [putAll, Act.put, List.setIfInBounds_toArray, List.set_cons_zero, List.set_cons_succ]) (hCont (gb308) _ ⟨hHeld, (bk BK282), (bk BK283), (bk BK291), (bk BK292), (bk BK300), (bk BK308), GW308.out, GE308.out, NB282_308.out, NB308_282.out, NB283_308.out, NB308_283.out, NB291_308.out, NB308_291.out, NB292_308.out, NB308_292.out, NB300_308.out, NB308_300.out, (hs_ HB)⟩)
       ·skip
        refine bS 13 #[.int .i64 0, .int .i64 0] 23 ?_
        intro gb308 hg w48 hbox hb
        have BK308 := Aside0.mk (hbox)
        have GE308 := gw hg (hs_ HB)
        have GW308 := GE308
        have NB282_308 := nl hg (bk BK282)
        have NB308_282 := ng hg (bk BK282)
        have NB283_308 := nl hg (bk BK283)
        have NB308_283 := ng hg (bk BK283)
        have NB291_308 := nl hg (bk BK291)
        have NB308_291 := ng hg (bk BK291)
        have NB292_308 := nl hg (bk BK292)
        have NB308_292 := ng hg (bk BK292)
        have NB300_308 := nl hg (bk BK300)
        have NB308_300 := ng hg (bk BK300)
        replace BK282 := bb (bk BK282) hb
        replace BK283 := bb (bk BK283) hb
        replace BK291 := bb (bk BK291) hb
        replace BK292 := bb (bk BK292) hb
        replace BK300 := bb (bk BK300) hb
        replace HB := hbb (hs_ HB) hb
        clear hb hbox hg
        refine hK.out _ _ ⟨(blk_cell BK292.out 0).trans rfl, (blk_cell BK292.out 1).trans rfl, (blk_cell BK291.out 0).trans rfl, (blk_cell BK291.out 1).trans rfl⟩ (fun hHeld => ?_)
        clear hK K
        refine norm_ (a' := ?_) ?_ ?_
        rotate_left
        ·show Act.put _ (some 13) _ = _
         simp only [Act.put, List.setIfInBounds_toArray, List.set_cons_zero, List.set_cons_succ, i64_w, i32_w]
         rfl
        refine one_ (i := 6) (N := some 52) #[true, true, true, true, true, true, true, false, false, false, true, false, false] rfl rfl (one_of HT_.out (by kernel_rfl)) (by decide) (fun K hK => ?_)
        refine gS Try.func45 #[.agg #[.int .i64 t301, .int .i64 t302], .agg #[.int .i64 t303, .int .i64 t304]] ?_
        with_reducible refine (impl_SpanSub.calls t301 t302 t303 t304 t305 t306 t307 _ A23.out).mono ?_
        rintro e w49 ⟨rfl, hb⟩
        refine ⟨_, rfl, ?_⟩
        replace BK282 := bb (bk BK282) hb
        replace BK283 := bb (bk BK283) hb
        replace BK291 := bb (bk BK291) hb
        replace BK292 := bb (bk BK292) hb
        replace BK300 := bb (bk BK300) hb
        replace BK308 := bb (bk BK308) hb
        replace HB := hbb (hs_ HB) hb
        clear hb
        refine hK.out _ _ ⟨(blk_cell BK292.out 0).trans rfl, (blk_cell BK292.out 1).trans rfl, (blk_cell BK291.out 0).trans rfl, (blk_cell BK291.out 1).trans rfl⟩ (fun hHeld => ?_)
        clear hK K
        refine norm_ (a' := ?_) ?_ ?_
        rotate_left
        ·show Act.put _ (some 52) _ = _
         simp only [Act.put, List.setIfInBounds_toArray, List.set_cons_zero, List.set_cons_succ, i64_w, i32_w]
         rfl
        refine pure_ (i := 7) (N := some 45) (v := ?_) (a' := ?_) #[true, true, true, true, true, true, true, true, false, false, true, false, false] rfl rfl (any_of HT_.out (by kernel_rfl)) (fun _ _ _ h => h) (Or.inl ⟨by rfl, ?_⟩) ?_ ?_
        rotate_left
        ·intro w'
         go_simp
         with_reducible rfl
        rotate_left
        ·simp only [Act.put, List.setIfInBounds_toArray, List.set_cons_zero, List.set_cons_succ, i64_w, i32_w]
         rfl
        refine pure_ (i := 8) (N := some 53) (v := ?_) (a' := ?_) #[true, true, true, true, true, true, true, true, true, false, true, false, false] rfl rfl (any_of HT_.out (by kernel_rfl)) (fun _ _ _ h => h) (Or.inl ⟨by rfl, ?_⟩) ?_ ?_
        rotate_left
        ·intro w'
         go_simp
         with_reducible rfl
        rotate_left
        ·simp only [Act.put, List.setIfInBounds_toArray, List.set_cons_zero, List.set_cons_succ, i64_w, i32_w]
         rfl
        refine pure_ (i := 9) (N := some 54) (v := ?_) (a' := ?_) #[true, true, true, true, true, true, true, true, true, true, true, false, false] rfl rfl (any_of HT_.out (by kernel_rfl)) (fun _ _ _ h => h) (Or.inl ⟨by rfl, ?_⟩) ?_ ?_
        rotate_left
        ·intro w'
         go_simp
         with_reducible rfl
        rotate_left
        ·simp only [Act.put, List.setIfInBounds_toArray, List.set_cons_zero, List.set_cons_succ, i64_w, i32_w]
         rfl
        exact norm_ (by simp only [putAll, Act.put, List.setIfInBounds_toArray, List.set_cons_zero, List.set_cons_succ]) (hCont (gb308) _ ⟨hHeld, (bk BK282), (bk BK283), (bk BK291), (bk BK292), (bk BK300), (bk BK308), GW308.out, GE308.out, NB282_308.out, NB308_282.out, NB283_308.out, NB308_283.out, NB291_308.out, NB308_291.out, NB292_308.out, NB308_292.out, NB300_308.out, NB308_300.out, (hs_ HB)⟩)
      ·skip
       refine bS 13 #[.int .i64 0, .int .i64 0] 23 ?_
       intro gb308 hg w47 hbox hb
       have BK308 := Aside0.mk (hbox)
       have GE308 := gw hg (hs_ HB)
       have GW308 := GE308
       have NB282_308 := nl hg (bk BK282)
       have NB308_282 := ng hg (bk BK282)
       have NB283_308 := nl hg (bk BK283)
       have NB308_283 := ng hg (bk BK283)
       have NB291_308 := nl hg (bk BK291)
       have NB308_291 := ng hg (bk BK291)
       have NB292_308 := nl hg (bk BK292)
       have NB308_292 := ng hg (bk BK292)
       have NB300_308 := nl hg (bk BK300)
       have NB308_300 := ng hg (bk BK300)
       replace BK282 := bb (bk BK282) hb
       replace BK283 := bb (bk BK283) hb
       replace BK291 := bb (bk BK291) hb
       replace BK292 := bb (bk BK292) hb
       replace BK300 := bb (bk BK300) hb
       replace HB := hbb (hs_ HB) hb
       clear hb hbox hg
       refine hK.out _ _ ⟨(blk_cell BK292.out 0).trans rfl, (blk_cell BK292.out 1).trans rfl, (blk_cell BK291.out 0).trans rfl, (blk_cell BK291.out 1).trans rfl⟩ (fun hHeld => ?_)
       clear hK K
       refine norm_ (a' := ?_) ?_ ?_
       rotate_left
       ·show Act.put _ (some 13) _ = _
        simp only [Act.put, List.setIfInBounds_toArray, List.set_cons_zero, List.set_cons_succ, i64_w, i32_w]
        rfl
       refine one_ (i := 5) (N := some 51) #[true, true, true, true, true, true, false, false, false, false, true, false, false] rfl rfl (one_of HT_.out (by kernel_rfl)) (by decide) (fun K hK => ?_)
       refine gS Try.func44 #[.int .i64 a0, .agg #[.int .i64 t287, .int .i64 t288]] ?_
       with_reducible refine (impl_scaled.calls kj3 a0 t287 t288 t303 t304 _ A22.out).mono ?_
       rintro e w48 ⟨rfl, hb⟩
       refine ⟨_, rfl, ?_⟩
       replace BK282 := bb (bk BK282) hb
       replace BK283 := bb (bk BK283) hb
       replace BK291 := bb (bk BK291) hb
       replace BK292 := bb (bk BK292) hb
       replace BK300 := bb (bk BK300) hb
       replace BK308 := bb (bk BK308) hb
       replace HB := hbb (hs_ HB) hb
       clear hb
       refine hK.out _ _ ⟨(blk_cell BK292.out 0).trans rfl, (blk_cell BK292.out 1).trans rfl, (blk_cell BK291.out 0).trans rfl, (blk_cell BK291.out 1).trans rfl⟩ (fun hHeld => ?_)
       clear hK K
       refine norm_ (a' := ?_) ?_ ?_
       rotate_left
       ·show Act.put _ (some 51) _ = _
        simp only [Act.put, List.setIfInBounds_toArray, List.set_cons_zero, List.set_cons_succ, i64_w, i32_w]
        rfl
       refine one_ (i := 6) (N := some 52) #[true, true, true, true, true, true, true, false, false, false, true, false, false] rfl rfl (one_of HT_.out (by kernel_rfl)) (by decide) (fun K hK => ?_)
       refine gS Try.func45 #[.agg #[.int .i64 t301, .int .i64 t302], .agg #[.int .i64 t303, .int .i64 t304]] ?_
       with_reducible refine (impl_SpanSub.calls t301 t302 t303 t304 t305 t306 t307 _ A23.out).mono ?_
       rintro e w49 ⟨rfl, hb⟩
       refine ⟨_, rfl, ?_⟩
       replace BK282 := bb (bk BK282) hb
       replace BK283 := bb (bk BK283) hb
       replace BK291 := bb (bk BK291) hb
       replace BK292 := bb (bk BK292) hb
       replace BK300 := bb (bk BK300) hb
       replace BK308 := bb (bk BK308) hb
       replace HB := hbb (hs_ HB) hb
       clear hb
       refine hK.out _ _ ⟨(blk_cell BK292.out 0).trans rfl, (blk_cell BK292.out 1).trans rfl, (blk_cell BK291.out 0).trans rfl, (blk_cell BK291.out 1).trans rfl⟩ (fun hHeld => ?_)
       clear hK K
       refine norm_ (a' := ?_) ?_ ?_
       rotate_left
       ·show Act.put _ (some 52) _ = _
        simp only [Act.put, List.setIfInBounds_toArray, List.set_cons_zero, List.set_cons_succ, i64_w, i32_w]
        rfl
       refine pure_ (i := 7) (N := some 45) (v := ?_) (a' := ?_) #[true, true, true, true, true, true, true, true, false, false, true, false, false] rfl rfl (any_of HT_.out (by kernel_rfl)) (fun _ _ _ h => h) (Or.inl ⟨by rfl, ?_⟩) ?_ ?_
       rotate_left
       ·intro w'
        go_simp
        with_reducible rfl
       rotate_left
       ·simp only [Act.put, List.setIfInBounds_toArray, List.set_cons_zero, List.set_cons_succ, i64_w, i32_w]
        rfl
       refine pure_ (i := 8) (N := some 53) (v := ?_) (a' := ?_) #[true, true, true, true, true, true, true, true, true, false, true, false, false] rfl rfl (any_of HT_.out (by kernel_rfl)) (fun _ _ _ h => h) (Or.inl ⟨by rfl, ?_⟩) ?_ ?_
       rotate_left
       ·intro w'
        go_simp
        with_reducible rfl
       rotate_left
       ·simp only [Act.put, List.setIfInBounds_toArray, List.set_cons_zero, List.set_cons_succ, i64_w, i32_w]
        rfl
       refine pure_ (i := 9) (N := some 54) (v := ?_) (a' := ?_) #[true, true, true, true, true, true, true, true, true, true, true, false, false] rfl rfl (any_of HT_.out (by kernel_rfl)) (fun _ _ _ h => h) (Or.inl ⟨by rfl, ?_⟩) ?_ ?_
       rotate_left
       ·intro w'
        go_simp
        with_reducible rfl
       rotate_left
       ·simp only [Act.put, List.setIfInBounds_toArray, List.set_cons_zero, List.set_cons_succ, i64_w, i32_w]
        rfl
       exact norm_ (by simp only [putAll, Act.put, List.setIfInBounds_toArray, List.set_cons_zero, List.set_cons_succ]) (hCont (gb308) _ ⟨hHeld, (bk BK282), (bk BK283), (bk BK291), (bk BK292), (bk BK300), (bk BK308), GW308.out, GE308.out, NB282_308.out, NB308_282.out, NB283_308.out, NB308_283.out, NB291_308.out, NB308_291.out, NB292_308.out, NB308_292.out, NB300_308.out, NB308_300.out, (hs_ HB)⟩)
     ·skip
      refine bS 13 #[.int .i64 0, .int .i64 0] 23 ?_
      intro gb308 hg w46 hbox hb
      have BK308 := Aside0.mk (hbox)
      have GE308 := gw hg (hs_ HB)
      have GW308 := GE308
      have NB282_308 := nl hg (bk BK282)
      have NB308_282 := ng hg (bk BK282)
      have NB283_308 := nl hg (bk BK283)
      have NB308_283 := ng hg (bk BK283)
      have NB291_308 := nl hg (bk BK291)
      have NB308_291 := ng hg (bk BK291)
      have NB292_308 := nl hg (bk BK292)
      have NB308_292 := ng hg (bk BK292)
      have NB300_308 := nl hg (bk BK300)
      have NB308_300 := ng hg (bk BK300)
      replace BK282 := bb (bk BK282) hb
      replace BK283 := bb (bk BK283) hb
      replace BK291 := bb (bk BK291) hb
      replace BK292 := bb (bk BK292) hb
      replace BK300 := bb (bk BK300) hb
      replace HB := hbb (hs_ HB) hb
      clear hb hbox hg
      refine hK.out _ _ ⟨(blk_cell BK292.out 0).trans rfl, (blk_cell BK292.out 1).trans rfl, (blk_cell BK291.out 0).trans rfl, (blk_cell BK291.out 1).trans rfl⟩ (fun hHeld => ?_)
      clear hK K
      refine norm_ (a' := ?_) ?_ ?_
      rotate_left
      ·show Act.put _ (some 13) _ = _
       simp only [Act.put, List.setIfInBounds_toArray, List.set_cons_zero, List.set_cons_succ, i64_w, i32_w]
       rfl
      refine one_ (i := 2) (N := some 48) #[true, true, true, true, true, false, false, false, false, false, true, false, false] rfl rfl (one_of HT_.out (by kernel_rfl)) (by decide) (fun K hK => ?_)
      refine gS Try.func44 #[.int .i64 a1, .agg #[.int .i64 t289, .int .i64 t290]] ?_
      with_reducible refine (impl_scaled.calls kj3 a1 t289 t290 t301 t302 _ A21.out).mono ?_
      rintro e w47 ⟨rfl, hb⟩
      refine ⟨_, rfl, ?_⟩
      replace BK282 := bb (bk BK282) hb
      replace BK283 := bb (bk BK283) hb
      replace BK291 := bb (bk BK291) hb
      replace BK292 := bb (bk BK292) hb
      replace BK300 := bb (bk BK300) hb
      replace BK308 := bb (bk BK308) hb
      replace HB := hbb (hs_ HB) hb
      clear hb
      refine hK.out _ _ ⟨(blk_cell BK292.out 0).trans rfl, (blk_cell BK292.out 1).trans rfl, (blk_cell BK291.out 0).trans rfl, (blk_cell BK291.out 1).trans rfl⟩ (fun hHeld => ?_)
      clear hK K
      refine norm_ (a' := ?_) ?_ ?_
      rotate_left
      ·show Act.put _ (some 48) _ = _
       simp only [Act.put, List.setIfInBounds_toArray, List.set_cons_zero, List.set_cons_succ, i64_w, i32_w]
       rfl
      refine one_ (i := 5) (N := some 51) #[true, true, true, true, true, true, false, false, false, false, true, false, false] rfl rfl (one_of HT_.out (by kernel_rfl)) (by decide) (fun K hK => ?_)
      refine gS Try.func44 #[.int .i64 a0, .agg #[.int .i64 t287, .int .i64 t288]] ?_
      with_reducible refine (impl_scaled.calls kj3 a0 t287 t288 t303 t304 _ A22.out).mono ?_
      rintro e w48 ⟨rfl, hb⟩
      refine ⟨_, rfl, ?_⟩
      replace BK282 := bb (bk BK282) hb
      replace BK283 := bb (bk BK283) hb
      replace BK291 := bb (bk BK291) hb
      replace BK292 := bb (bk BK292) hb
      replace BK300 := bb (bk BK300) hb
      replace BK308 := bb (bk BK308) hb
      replace HB := hbb (hs_ HB) hb
      clear hb
      refine hK.out _ _ ⟨(blk_cell BK292.out 0).trans rfl, (blk_cell BK292.out 1).trans rfl, (blk_cell BK291.out 0).trans rfl, (blk_cell BK291.out 1).trans rfl⟩ (fun hHeld => ?_)
      clear hK K
      refine norm_ (a' := ?_) ?_ ?_
      rotate_left
      ·show Act.put _ (some 51) _ = _
       simp only [Act.put, List.setIfInBounds_toArray, List.set_cons_zero, List.set_cons_succ, i64_w, i32_w]
       rfl
      refine one_ (i := 6) (N := some 52) #[true, true, true, true, true, true, true, false, false, false, true, false, false] rfl rfl (one_of HT_.out (by kernel_rfl)) (by decide) (fun K hK => ?_)
      refine gS Try.func45 #[.agg #[.int .i64 t301, .int .i64 t302], .agg #[.int .i64 t303, .int .i64 t304]] ?_
      with_reducible refine (impl_SpanSub.calls t301 t302 t303 t304 t305 t306 t307 _ A23.out).mono ?_
      rintro e w49 ⟨rfl, hb⟩
      refine ⟨_, rfl, ?_⟩
      replace BK282 := bb (bk BK282) hb
      replace BK283 := bb (bk BK283) hb
      replace BK291 := bb (bk BK291) hb
      replace BK292 := bb (bk BK292) hb
      replace BK300 := bb (bk BK300) hb
      replace BK308 := bb (bk BK308) hb
      replace HB := hbb (hs_ HB) hb
      clear hb
      refine hK.out _ _ ⟨(blk_cell BK292.out 0).trans rfl, (blk_cell BK292.out 1).trans rfl, (blk_cell BK291.out 0).trans rfl, (blk_cell BK291.out 1).trans rfl⟩ (fun hHeld => ?_)
      clear hK K
      refine norm_ (a' := ?_) ?_ ?_
      rotate_left
      ·show Act.put _ (some 52) _ = _
       simp only [Act.put, List.setIfInBounds_toArray, List.set_cons_zero, List.set_cons_succ, i64_w, i32_w]
       rfl
      refine pure_ (i := 7) (N := some 45) (v := ?_) (a' := ?_) #[true, true, true, true, true, true, true, true, false, false, true, false, false] rfl rfl (any_of HT_.out (by kernel_rfl)) (fun _ _ _ h => h) (Or.inl ⟨by rfl, ?_⟩) ?_ ?_
      rotate_left
      ·intro w'
       go_simp
       with_reducible rfl
      rotate_left
      ·simp only [Act.put, List.setIfInBounds_toArray, List.set_cons_zero, List.set_cons_succ, i64_w, i32_w]
       rfl
      refine pure_ (i := 8) (N := some 53) (v := ?_) (a' := ?_) #[true, true, true, true, true, true, true, true, true, false, true, false, false] rfl rfl (any_of HT_.out (by kernel_rfl)) (fun _ _ _ h => h) (Or.inl ⟨by rfl, ?_⟩) ?_ ?_
      rotate_left
      ·intro w'
       go_simp
       with_reducible rfl
      rotate_left
      ·simp only [Act.put, List.setIfInBounds_toArray, List.set_cons_zero, List.set_cons_succ, i64_w, i32_w]
       rfl
      refine pure_ (i := 9) (N := some 54) (v := ?_) (a' := ?_) #[true, true, true, true, true, true, true, true, true, true, true, false, false] rfl rfl (any_of HT_.out (by kernel_rfl)) (fun _ _ _ h => h) (Or.inl ⟨by rfl, ?_⟩) ?_ ?_
      rotate_left
      ·intro w'
       go_simp
       with_reducible rfl
      rotate_left
      ·simp only [Act.put, List.setIfInBounds_toArray, List.set_cons_zero, List.set_cons_succ, i64_w, i32_w]
       rfl
      exact norm_ (by simp only [putAll, Act.put, List.setIfInBounds_toArray, List.set_cons_zero, List.set_cons_succ]) (hCont (gb308) _ ⟨hHeld, (bk BK282), (bk BK283), (bk BK291), (bk BK292), (bk BK300), (bk BK308), GW308.out, GE308.out, NB282_308.out, NB308_282.out, NB283_308.out, NB308_283.out, NB291_308.out, NB308_291.out, NB292_308.out, NB308_292.out, NB300_308.out, NB308_300.out, (hs_ HB)⟩)
    rintro gb308 w50 ⟨hS_, h0_, h1_, h2_, h3_, h4_, h5_, h6_, h7_, h8_, h9_, h10_, h11_, h12_, h13_, h14_, h15_, h16_, h17_, h18_⟩
    have n0_ : Aside0 (w50.heap[gb282]? = some (.cells #[.int .i64 0, .int .i64 0] 23 (0, 0))) := ⟨h0_⟩
    have n1_ : Aside0 (w50.heap[gb283]? = some (.cells #[.int .i64 0, .int .i64 0] 23 (0, 0))) := ⟨h1_⟩
    have n2_ : Aside0 (w50.heap[gb291]? = some (.cells #[.int .i64 t287, .int .i64 t288] 23 (0, 0))) := ⟨h2_⟩
    have n3_ : Aside0 (w50.heap[gb292]? = some (.cells #[.int .i64 t289, .int .i64 t290] 23 (0, 0))) := ⟨h3_⟩
    have n4_ : Aside0 (w50.heap[gb300]? = some (.cells #[.int .i64 t297, .int .i64 t298] 23 (0, 0))) := ⟨h4_⟩
    have n5_ : Aside0 (w50.heap[gb308]? = some (.cells #[.int .i64 0, .int .i64 0] 23 (0, 0))) := ⟨h5_⟩
    have n6_ : Aside0 (w.heap.size ≤ gb308) := ⟨h6_⟩
    have n7_ : Aside0 (w.heap.size ≤ gb308) := ⟨h7_⟩
    have n8_ : Aside0 (gb282 ≠ gb308) := ⟨h8_⟩
    have n9_ : Aside0 (gb308 ≠ gb282) := ⟨h9_⟩
    have n10_ : Aside0 (gb283 ≠ gb308) := ⟨h10_⟩
    have n11_ : Aside0 (gb308 ≠ gb283) := ⟨h11_⟩
    have n12_ : Aside0 (gb291 ≠ gb308) := ⟨h12_⟩
    have n13_ : Aside0 (gb308 ≠ gb291) := ⟨h13_⟩
    have n14_ : Aside0 (gb292 ≠ gb308) := ⟨h14_⟩
    have n15_ : Aside0 (gb308 ≠ gb292) := ⟨h15_⟩
    have n16_ : Aside0 (gb300 ≠ gb308) := ⟨h16_⟩
    have n17_ : Aside0 (gb308 ≠ gb300) := ⟨h17_⟩
    have n18_ : Aside0 (Below w.heap.size w w50) := ⟨h18_⟩
    clear BK282
    clear BK283
    clear BK291
    clear BK292
    clear BK300
    clear HB
    clear h0_ h1_ h2_ h3_ h4_ h5_ h6_ h7_ h8_ h9_ h10_ h11_ h12_ h13_ h14_ h15_ h16_ h17_ h18_
    have BK282 := n0_
    have BK283 := n1_
    have BK291 := n2_
    have BK292 := n3_
    have BK300 := n4_
    have BK308 := n5_
    have GW308 := n6_
    have GE308 := n7_
    have NB282_308 := n8_
    have NB308_282 := n9_
    have NB283_308 := n10_
    have NB308_283 := n11_
    have NB291_308 := n12_
    have NB308_291 := n13_
    have NB292_308 := n14_
    have NB308_292 := n15_
    have NB300_308 := n16_
    have NB308_300 := n17_
    have HB := n18_
    clear n0_ n1_ n2_ n3_ n4_ n5_ n6_ n7_ n8_ n9_ n10_ n11_ n12_ n13_ n14_ n15_ n16_ n17_ n18_
    have hHeld : w50.cell? ⟨gb292, 0, none⟩ = some (.int .i64 t289) ∧ w50.cell? ⟨gb292, 1, none⟩ = some (.int .i64 t290) ∧ w50.cell? ⟨gb291, 0, none⟩ = some (.int .i64 t287) ∧ w50.cell? ⟨gb291, 1, none⟩ = some (.int .i64 t288) := hS_
    refine norm_ (a' := ?_) ?_ ?_
    rotate_left
    ·simp only [putAll, Act.put, List.setIfInBounds_toArray, List.set_cons_zero, List.set_cons_succ]
     rfl
    refine one_ (i := 11) (N := none) #[true, true, true, true, true, true, true, true, true, true, true, true, false] rfl rfl (one_of HT_.out (by kernel_rfl)) (by decide) (fun K hK => ?_)
    have hs51 : w50.cell? ⟨gb308, 0, none⟩ = some (.int .i64 0) := (blk_cell BK308.out 0).trans rfl
    have hfs51 := blk_frozen BK308.out 0
    have hns51_0 := NB282_308.out
    have hns51_1 := NB283_308.out
    have hns51_2 := NB291_308.out
    have hns51_3 := NB292_308.out
    have hns51_4 := NB300_308.out
    have hms51_0 := NB308_282.out
    have hms51_1 := NB308_283.out
    have hms51_2 := NB308_291.out
    have hms51_3 := NB308_292.out
    have hms51_4 := NB308_300.out
    have hs52 : w50.cell? ⟨gb308, 1, none⟩ = some (.int .i64 0) := (blk_cell BK308.out 1).trans rfl
    have hfs52 := blk_frozen BK308.out 1
    have hns52_0 := NB282_308.out
    have hns52_1 := NB283_308.out
    have hns52_2 := NB291_308.out
    have hns52_3 := NB292_308.out
    have hns52_4 := NB300_308.out
    have hms52_0 := NB308_282.out
    have hms52_1 := NB308_283.out
    have hms52_2 := NB308_291.out
    have hms52_3 := NB308_292.out
    have hms52_4 := NB308_300.out
    refine skip_ (w1 := ?_) (by rfl) rfl ?_ ?_
    rotate_left
    ·go_simp
     rfl
    refine hK.out _ _ ⟨((cell_far (p := ⟨gb308, _, none⟩) NB292_308.out _).trans (((cell_far (p := ⟨gb308, _, none⟩) NB292_308.out _).trans (hHeld.1)))), ((cell_far (p := ⟨gb308, _, none⟩) NB292_308.out _).trans (((cell_far (p := ⟨gb308, _, none⟩) NB292_308.out _).trans (hHeld.2.1)))), ((cell_far (p := ⟨gb308, _, none⟩) NB291_308.out _).trans (((cell_far (p := ⟨gb308, _, none⟩) NB291_308.out _).trans (hHeld.2.2.1)))), ((cell_far (p := ⟨gb308, _, none⟩) NB291_308.out _).trans (((cell_far (p := ⟨gb308, _, none⟩) NB291_308.out _).trans (hHeld.2.2.2))))⟩ (fun hHeld => ?_)
    clear hK K
    refine pure_ (i := 12) (N := some 14) (v := ?_) (a' := ?_) #[true, true, true, true, true, true, true, true, true, true, true, true, true] rfl rfl (any_of HT_.out (by kernel_rfl)) (fun _ _ _ h => h) (Or.inl ⟨by rfl, ?_⟩) ?_ ?_
    rotate_left
    ·intro w'
     go_simp
     with_reducible rfl
    rotate_left
    ·simp only [Act.put, List.setIfInBounds_toArray, List.set_cons_zero, List.set_cons_succ, i64_w, i32_w]
     rfl
    refine done_ (done_of HT_.out (by kernel_rfl)) ?_
    try go_wp2
    have n0_ : Aside0 (((w50.setCell ⟨gb308, 0, none⟩ (.int .i64 t305)).setCell ⟨gb308, 1, none⟩ (.int .i64 t306)).heap[gb282]? = some (.cells #[.int .i64 0, .int .i64 0] 23 (0, 0))) := ⟨bk1 BK282 NB282_308⟩
    have n1_ : Aside0 (((w50.setCell ⟨gb308, 0, none⟩ (.int .i64 t305)).setCell ⟨gb308, 1, none⟩ (.int .i64 t306)).heap[gb283]? = some (.cells #[.int .i64 0, .int .i64 0] 23 (0, 0))) := ⟨bk1 BK283 NB283_308⟩
    have n2_ : Aside0 (((w50.setCell ⟨gb308, 0, none⟩ (.int .i64 t305)).setCell ⟨gb308, 1, none⟩ (.int .i64 t306)).heap[gb291]? = some (.cells #[.int .i64 t287, .int .i64 t288] 23 (0, 0))) := ⟨bk1 BK291 NB291_308⟩
    have n3_ : Aside0 (((w50.setCell ⟨gb308, 0, none⟩ (.int .i64 t305)).setCell ⟨gb308, 1, none⟩ (.int .i64 t306)).heap[gb292]? = some (.cells #[.int .i64 t289, .int .i64 t290] 23 (0, 0))) := ⟨bk1 BK292 NB292_308⟩
    have n4_ : Aside0 (((w50.setCell ⟨gb308, 0, none⟩ (.int .i64 t305)).setCell ⟨gb308, 1, none⟩ (.int .i64 t306)).heap[gb300]? = some (.cells #[.int .i64 t297, .int .i64 t298] 23 (0, 0))) := ⟨bk1 BK300 NB300_308⟩
    have n5_ : Aside0 (((w50.setCell ⟨gb308, 0, none⟩ (.int .i64 t305)).setCell ⟨gb308, 1, none⟩ (.int .i64 t306)).heap[gb308]? = some (.cells #[.int .i64 t305, .int .i64 t306] 23 (0, 0))) := ⟨bkp BK308⟩
    have n6_ : Aside0 (Below w.heap.size w ((w50.setCell ⟨gb308, 0, none⟩ (.int .i64 t305)).setCell ⟨gb308, 1, none⟩ (.int .i64 t306))) := ⟨hs_ HB⟩
    (try clear BK282)
    (try clear BK283)
    (try clear BK291)
    (try clear BK292)
    (try clear BK300)
    (try clear BK308)
    (try clear HB)
    generalize ((w50.setCell ⟨gb308, 0, none⟩ (.int .i64 t305)).setCell ⟨gb308, 1, none⟩ (.int .i64 t306)) = w53 at n0_ n1_ n2_ n3_ n4_ n5_ n6_ ⊢
    have BK282 := n0_
    have BK283 := n1_
    have BK291 := n2_
    have BK292 := n3_
    have BK300 := n4_
    have BK308 := n5_
    have HB := n6_
    clear n0_ n1_ n2_ n3_ n4_ n5_ n6_
    replace BK282 := Aside0.mk (blk_drew BK282.out)
    replace BK283 := Aside0.mk (blk_drew BK283.out)
    replace BK291 := Aside0.mk (blk_drew BK291.out)
    replace BK292 := Aside0.mk (blk_drew BK292.out)
    replace BK300 := Aside0.mk (blk_drew BK300.out)
    replace BK308 := Aside0.mk (blk_drew BK308.out)
    replace HB := Aside0.mk (below_drew1 HB.out)
    refine start_ (n := 5) (S := fun w' => w'.cell? ⟨gb300, 0, none⟩ = some (.int .i64 t297) ∧ w'.cell? ⟨gb300, 1, none⟩ = some (.int .i64 t298) ∧ w'.cell? ⟨gb308, 0, none⟩ = some (.int .i64 t305) ∧ w'.cell? ⟨gb308, 1, none⟩ = some (.int .i64 t306)) (ds := []) #[false, false, false, false, false] (by kernel_rfl) rfl rfl ⟨(blk_cell BK300.out 0).trans rfl, (blk_cell BK300.out 1).trans rfl, (blk_cell BK308.out 0).trans rfl, (blk_cell BK308.out 1).trans rfl⟩ (fun hHeld => ?_)
    generalize w53.drew = w54 at BK282 BK283 BK291 BK292 BK300 BK308 HB hHeld ⊢
    refine take_ (i := 0) (N := some 55) (v := ?_) (a' := ?_) #[true, false, false, false, false] rfl rfl (by kernel_rfl) (fun _ _ _ h => h) (Or.inl ⟨by rfl, ?_⟩) hHeld ?_ ?_
    rotate_left
    ·rintro w' ⟨s0, s1, s2, s3⟩
     go_simp
     with_reducible rfl
    rotate_left
    ·simp only [Act.put, List.setIfInBounds_toArray, List.set_cons_zero, List.set_cons_succ, i64_w, i32_w]
     rfl
    refine take_ (i := 1) (N := some 56) (v := ?_) (a' := ?_) #[true, true, false, false, false] rfl rfl (by kernel_rfl) (fun _ _ _ h => h) (Or.inl ⟨by rfl, ?_⟩) hHeld ?_ ?_
    rotate_left
    ·rintro w' ⟨s0, s1, s2, s3⟩
     go_simp
     with_reducible rfl
    rotate_left
    ·simp only [Act.put, List.setIfInBounds_toArray, List.set_cons_zero, List.set_cons_succ, i64_w, i32_w]
     rfl
    refine one_ (i := 2) (N := none) #[true, true, true, false, false] rfl rfl (by kernel_rfl) (by decide) (fun K hK => ?_)
    have hs55 : w54.cell? ⟨gb282, 0, none⟩ = some (.int .i64 0) := (blk_cell BK282.out 0).trans rfl
    have hfs55 := blk_frozen BK282.out 0
    have hns55_1 := NB283_282.out
    have hns55_2 := NB291_282.out
    have hns55_3 := NB292_282.out
    have hns55_4 := NB300_282.out
    have hns55_5 := NB308_282.out
    have hms55_1 := NB282_283.out
    have hms55_2 := NB282_291.out
    have hms55_3 := NB282_292.out
    have hms55_4 := NB282_300.out
    have hms55_5 := NB282_308.out
    have hs56 : w54.cell? ⟨gb282, 1, none⟩ = some (.int .i64 0) := (blk_cell BK282.out 1).trans rfl
    have hfs56 := blk_frozen BK282.out 1
    have hns56_1 := NB283_282.out
    have hns56_2 := NB291_282.out
    have hns56_3 := NB292_282.out
    have hns56_4 := NB300_282.out
    have hns56_5 := NB308_282.out
    have hms56_1 := NB282_283.out
    have hms56_2 := NB282_291.out
    have hms56_3 := NB282_292.out
    have hms56_4 := NB282_300.out
    have hms56_5 := NB282_308.out
    refine skip_ (w1 := ?_) (by rfl) rfl ?_ ?_
    rotate_left
    ·go_simp
     rfl
    refine hK.out _ _ ⟨((cell_far (p := ⟨gb282, _, none⟩) NB300_282.out _).trans (((cell_far (p := ⟨gb282, _, none⟩) NB300_282.out _).trans (hHeld.1)))), ((cell_far (p := ⟨gb282, _, none⟩) NB300_282.out _).trans (((cell_far (p := ⟨gb282, _, none⟩) NB300_282.out _).trans (hHeld.2.1)))), ((cell_far (p := ⟨gb282, _, none⟩) NB308_282.out _).trans (((cell_far (p := ⟨gb282, _, none⟩) NB308_282.out _).trans (hHeld.2.2.1)))), ((cell_far (p := ⟨gb282, _, none⟩) NB308_282.out _).trans (((cell_far (p := ⟨gb282, _, none⟩) NB308_282.out _).trans (hHeld.2.2.2))))⟩ (fun hHeld => ?_)
    clear hK K
    refine one_ (i := 3) (N := none) #[true, true, true, true, false] rfl rfl (by kernel_rfl) (by decide) (fun K hK => ?_)
    have hs57 : w54.cell? ⟨gb283, 0, none⟩ = some (.int .i64 0) := (blk_cell BK283.out 0).trans rfl
    have hfs57 := blk_frozen BK283.out 0
    have hns57_0 := NB282_283.out
    have hns57_2 := NB291_283.out
    have hns57_3 := NB292_283.out
    have hns57_4 := NB300_283.out
    have hns57_5 := NB308_283.out
    have hms57_0 := NB283_282.out
    have hms57_2 := NB283_291.out
    have hms57_3 := NB283_292.out
    have hms57_4 := NB283_300.out
    have hms57_5 := NB283_308.out
    have hs58 : w54.cell? ⟨gb283, 1, none⟩ = some (.int .i64 0) := (blk_cell BK283.out 1).trans rfl
    have hfs58 := blk_frozen BK283.out 1
    have hns58_0 := NB282_283.out
    have hns58_2 := NB291_283.out
    have hns58_3 := NB292_283.out
    have hns58_4 := NB300_283.out
    have hns58_5 := NB308_283.out
    have hms58_0 := NB283_282.out
    have hms58_2 := NB283_291.out
    have hms58_3 := NB283_292.out
    have hms58_4 := NB283_300.out
    have hms58_5 := NB283_308.out
    refine skip_ (w1 := ?_) (by rfl) rfl ?_ ?_
    rotate_left
    ·go_simp
     rfl
    refine hK.out _ _ ⟨((cell_far (p := ⟨gb283, _, none⟩) NB300_283.out _).trans (((cell_far (p := ⟨gb283, _, none⟩) NB300_283.out _).trans (hHeld.1)))), ((cell_far (p := ⟨gb283, _, none⟩) NB300_283.out _).trans (((cell_far (p := ⟨gb283, _, none⟩) NB300_283.out _).trans (hHeld.2.1)))), ((cell_far (p := ⟨gb283, _, none⟩) NB308_283.out _).trans (((cell_far (p := ⟨gb283, _, none⟩) NB308_283.out _).trans (hHeld.2.2.1)))), ((cell_far (p := ⟨gb283, _, none⟩) NB308_283.out _).trans (((cell_far (p := ⟨gb283, _, none⟩) NB308_283.out _).trans (hHeld.2.2.2))))⟩ (fun hHeld => ?_)
    clear hK K
    refine pure_ (i := 4) (N := some 8) (v := ?_) (a' := ?_) #[true, true, true, true, true] rfl rfl (by kernel_rfl) (fun _ _ _ h => h) (Or.inl ⟨by rfl, ?_⟩) ?_ ?_
    rotate_left
    ·intro w'
     go_simp
     with_reducible rfl
    rotate_left
    ·simp only [Act.put, List.setIfInBounds_toArray, List.set_cons_zero, List.set_cons_succ, i64_w, i32_w]
     rfl
    refine done_ (by kernel_rfl) ?_
    try go_wp2
    refine bodyPost_ret (results_list (rs := [.cell 6 23, .cell 7 23, .tmp 8]) rfl (by simp) (.cell gb282 23 #[.int .i64 t297, .int .i64 t298] (0, 0) _ rfl (bkp BK282) Try.underlying23 rfl (by kernel_rfl) (.cell gb283 23 #[.int .i64 t305, .int .i64 t306] (0, 0) _ rfl (bkp BK283) Try.underlying23 rfl (by kernel_rfl) (.tmp .nil)))) rfl ?_
    exact ⟨by first | rfl | (simp [errW_none, errW_some] <;> rfl) | (simp [*, errW_none, errW_some] <;> rfl), hs_ HB⟩


end Go.Proofs.Ytcdgplkmahabiaa.M
