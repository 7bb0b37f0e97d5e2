import Derived.Test.YtlodpfddimeffaaM0
import Derived.Test.YtlodpfddimeffaaMa
namespace Go.Proofs.Ytlodpfddimeffaa.M
open Go.RowKit Go.Proofs.YtlodpfddimeffaaW.PrintWords Go.Proofs.YtlodpfddimeffaaW.PrintLast Go.Proofs.YtlodpfddimeffaaW.PrintMore
attribute [local go_sem] max2_int min2_int max_two min_two max_three min_three max_four min_four
attribute [local go_sem high] eqA31
attribute [local go_sem] fld31_0 fld31_1 fld25_0 fld25_1 fld25_2 fld25_3
set_option linter.unusedVariables false
set_option linter.unusedSimpArgs false

/-! ### impl_told: function 86 -/
def impl_told.f (a0_0 : Int) (a0_1 : Int) : Option (Int × Int × Bool) := (impl_SpanOk.f a0_0 a0_1).bind fun t342 => (if t342 = true then (some (a0_0, a0_1, true)) else (some (0, 0, false)))
set_option maxHeartbeats 8000000 in
set_option maxRecDepth 100000 in
theorem impl_told.calls (a0_0 : Int) (a0_1 : Int) (r1 : Int) (r2 : Int) (r3 : Bool) (w : World) (h : impl_told.f a0_0 a0_1 = some (r1, r2, r3)) :
  Calls Try.prog 86 #[.agg #[.int .i64 a0_0, .int .i64 a0_1]] w fun e w' => e = .returned (.tuple #[.agg #[.int .i64 r1, .int .i64 r2], .bool r3]) ∧ Below w.heap.size w w' := by
 have hu31 := Try.underlying31
 have HB := Aside0.mk (Below.refl w.heap.size w)
 have H := h
 clear h
 unfold impl_told.f at H
 replace H := Option.bind_eq_some_iff.mp H
 obtain ⟨t342, A20, H⟩ := H
 try dsimp only at H
 have A2 := Aside0.mk A20
 clear A20
 by_cases c3 : t342 = true
 ·subst c3
  rw [if_pos rfl] at H
  simp only [Option.some.injEq, Prod.mk.injEq] at H
  obtain ⟨rfl, rfl, rfl⟩ := H
  go_enter Try.func86, Try.ntmps86
  go_wp2_with (first | ((with_reducible refine gate_dst (N := 1) rfl ?_); refine bE 1 #[.int .i64 a0_0, .int .i64 a0_1] 31 ?_; intro gb340 hg w4 hbox hb; have BK340 := Aside0.mk (hbox); have GE340 := gw hg (hz0 HB); have GW340 := GE340; replace HB := hbb (hz0 HB) hb; clear hb hbox hg) | ((with_reducible refine gate_dst (N := 2) rfl ?_); refine bE 2 #[.int .i64 0, .int .i64 0] 31 ?_; intro gb341 hg w5 hbox hb; have BK341 := Aside0.mk (hbox); have GE341 := gw hg (hzs HB); have GW341 := GE341; have NB340_341 := nl hg (bk BK340); have NB341_340 := ng hg (bk BK340); replace BK340 := bb (bk BK340) hb; replace HB := hbb (hzs HB) hb; clear hb hbox hg; have hnb6 := NB340_341.out; have hnc6 := NB341_340.out; obtain ⟨hcz7_0, hcz7_1, hfz7_0, hfz7_1⟩ := cz2 BK340) | ((with_reducible refine gate_callee (f := 35) rfl ?_); refine gL 5 Try.func35 #[.agg #[.int .i64 a0_0, .int .i64 a0_1]] ?_; (with_reducible refine (impl_SpanOk.calls a0_0 a0_1 true _ A2.out).mono ?_); rintro e w8 ⟨rfl, hb⟩; refine ⟨_, rfl, ?_⟩; replace BK340 := bb (bk BK340) hb; replace BK341 := bb (bk BK341) hb; replace HB := hbb (hzs HB) hb; clear hb; obtain ⟨hcz9_0, hcz9_1, hfz9_0, hfz9_1⟩ := cz2 BK340; obtain ⟨hcz10_0, hcz10_1, hfz10_0, hfz10_1⟩ := cz2 BK341))
  refine bodyPost_ret (results_ct rfl _ _ gb341 31 #[.int .i64 a0_0, .int .i64 a0_1] (0, 0) _ rfl (bkp BK341) Try.underlying31 rfl (by kernel_rfl)) rfl ?_
  exact ⟨by first | rfl | (simp [errW_none, errW_some] <;> rfl) | (simp [*, errW_none, errW_some] <;> rfl), hzs HB⟩
 ·replace c3 := Bool.eq_false_iff.mpr c3
  subst c3
  rw [if_neg (show ¬ (false = true) by decide)] at H
  simp only [Option.some.injEq, Prod.mk.injEq] at H
  obtain ⟨rfl, rfl, rfl⟩ := H
  go_enter Try.func86, Try.ntmps86
  go_wp2_with (first | ((with_reducible refine gate_dst (N := 1) rfl ?_); refine bE 1 #[.int .i64 a0_0, .int .i64 a0_1] 31 ?_; intro gb340 hg w11 hbox hb; have BK340 := Aside0.mk (hbox); have GE340 := gw hg (hz0 HB); have GW340 := GE340; replace HB := hbb (hz0 HB) hb; clear hb hbox hg) | ((with_reducible refine gate_dst (N := 2) rfl ?_); refine bE 2 #[.int .i64 0, .int .i64 0] 31 ?_; intro gb341 hg w12 hbox hb; have BK341 := Aside0.mk (hbox); have GE341 := gw hg (hzs HB); have GW341 := GE341; have NB340_341 := nl hg (bk BK340); have NB341_340 := ng hg (bk BK340); replace BK340 := bb (bk BK340) hb; replace HB := hbb (hzs HB) hb; clear hb hbox hg; have hnb13 := NB340_341.out; have hnc13 := NB341_340.out; obtain ⟨hcz14_0, hcz14_1, hfz14_0, hfz14_1⟩ := cz2 BK340) | ((with_reducible refine gate_callee (f := 35) rfl ?_); refine gL 5 Try.func35 #[.agg #[.int .i64 a0_0, .int .i64 a0_1]] ?_; (with_reducible refine (impl_SpanOk.calls a0_0 a0_1 false _ A2.out).mono ?_); rintro e w15 ⟨rfl, hb⟩; refine ⟨_, rfl, ?_⟩; replace BK340 := bb (bk BK340) hb; replace BK341 := bb (bk BK341) hb; replace HB := hbb (hzs HB) hb; clear hb; obtain ⟨hcz16_0, hcz16_1, hfz16_0, hfz16_1⟩ := cz2 BK341))
  refine bodyPost_ret (results_ct rfl _ _ gb341 31 #[.int .i64 0, .int .i64 0] (0, 0) _ rfl (bkp BK341) Try.underlying31 rfl (by kernel_rfl)) rfl ?_
  exact ⟨by first | rfl | (simp [errW_none, errW_some] <;> rfl) | (simp [*, errW_none, errW_some] <;> rfl), hzs HB⟩


/-! ### impl_SpanMul: function 64 -/
def impl_SpanMul.j0 : Nat → Bool → Int → Int → Int → Int → Option (Int × Int × Bool)
 | 0, _, _, _, _, _ => none
 | k + 1, x17, x417000, x417001, x418000, x418001 => if x17 = true then (some (0, 0, false)) else ((impl_down.f (mn (mn (mn (wrap64 (x417000 * x418000)) (wrap64 (x417000 * x418001))) (wrap64 (x417001 * x418000))) (wrap64 (x417001 * x418001))) 1000000000).bind fun t421 => ((impl_up.f (mx (mx (mx (wrap64 (x417000 * x418000)) (wrap64 (x417000 * x418001))) (wrap64 (x417001 * x418000))) (wrap64 (x417001 * x418001))) 1000000000).bind fun t422 => ((impl_told.f t421 t422).bind fun bt423 => (some (bt423.1, bt423.2.1, bt423.2.2)))))
def impl_SpanMul.f (k : Nat) (a0_0 : Int) (a0_1 : Int) (a1_0 : Int) (a1_1 : Int) : Option (Int × Int × Bool) := (impl_SpanOk.f a0_0 a0_1).bind fun t419 => (if t419 = true then ((impl_SpanOk.f a1_0 a1_1).bind fun t420 => (impl_SpanMul.j0 k (!t420) a0_0 a0_1 a1_0 a1_1)) else (impl_SpanMul.j0 k true a0_0 a0_1 a1_0 a1_1))
set_option maxHeartbeats 8000000 in
set_option maxRecDepth 100000 in
theorem impl_SpanMul.calls (k : Nat) (a0_0 : Int) (a0_1 : Int) (a1_0 : Int) (a1_1 : Int) (r1 : Int) (r2 : Int) (r3 : Bool) (w : World) (h : impl_SpanMul.f k a0_0 a0_1 a1_0 a1_1 = some (r1, r2, r3)) :
  Calls Try.prog 64 #[.agg #[.int .i64 a0_0, .int .i64 a0_1], .agg #[.int .i64 a1_0, .int .i64 a1_1]] w fun e w' => e = .returned (.tuple #[.agg #[.int .i64 r1, .int .i64 r2], .bool r3]) ∧ Below w.heap.size w w' := by
 have hu31 := Try.underlying31
 have HB := Aside0.mk (Below.refl w.heap.size w)
 have H := h
 clear h
 unfold impl_SpanMul.f at H
 have HC3 := Aside0.mk H
 clear H
 go_enter Try.func64, Try.ntmps64
 go_upto_region 1 with (first | ((with_reducible refine gate_dst (N := 2) rfl ?_); refine bE 2 #[.int .i64 a0_0, .int .i64 a0_1] 31 ?_; intro gb416 hg w4 hbox hb; have BK416 := Aside0.mk (hbox); have GE416 := gw hg (hz0 HB); have GW416 := GE416; replace HB := hbb (hz0 HB) hb; clear hb hbox hg) | ((with_reducible refine gate_dst (N := 3) rfl ?_); refine bE 3 #[.int .i64 a1_0, .int .i64 a1_1] 31 ?_; intro gb417 hg w5 hbox hb; have BK417 := Aside0.mk (hbox); have GE417 := gw hg (hzs HB); have GW417 := GE417; have NB416_417 := nl hg (bk BK416); have NB417_416 := ng hg (bk BK416); replace BK416 := bb (bk BK416) hb; replace HB := hbb (hzs HB) hb; clear hb hbox hg) | ((with_reducible refine gate_dst (N := 4) rfl ?_); refine bE 4 #[.int .i64 0, .int .i64 0] 31 ?_; intro gb418 hg w6 hbox hb; have BK418 := Aside0.mk (hbox); have GE418 := gw hg (hzs HB); have GW418 := GE418; have NB416_418 := nl hg (bk BK416); have NB418_416 := ng hg (bk BK416); have NB417_418 := nl hg (bk BK417); have NB418_417 := ng hg (bk BK417); replace BK416 := bb (bk BK416) hb; replace BK417 := bb (bk BK417) hb; replace HB := hbb (hzs HB) hb; clear hb hbox hg))
 repeat (go_quiet (first | ((with_reducible refine gate_dst (N := 2) rfl ?_); refine bE 2 #[.int .i64 a0_0, .int .i64 a0_1] 31 ?_; intro gb416 hg w4 hbox hb; have BK416 := Aside0.mk (hbox); have GE416 := gw hg (hz0 HB); have GW416 := GE416; replace HB := hbb (hz0 HB) hb; clear hb hbox hg) | ((with_reducible refine gate_dst (N := 3) rfl ?_); refine bE 3 #[.int .i64 a1_0, .int .i64 a1_1] 31 ?_; intro gb417 hg w5 hbox hb; have BK417 := Aside0.mk (hbox); have GE417 := gw hg (hzs HB); have GW417 := GE417; have NB416_417 := nl hg (bk BK416); have NB417_416 := ng hg (bk BK416); replace BK416 := bb (bk BK416) hb; replace HB := hbb (hzs HB) hb; clear hb hbox hg) | ((with_reducible refine gate_dst (N := 4) rfl ?_); refine bE 4 #[.int .i64 0, .int .i64 0] 31 ?_; intro gb418 hg w6 hbox hb; have BK418 := Aside0.mk (hbox); have GE418 := gw hg (hzs HB); have GW418 := GE418; have NB416_418 := nl hg (bk BK416); have NB418_416 := ng hg (bk BK416); have NB417_418 := nl hg (bk BK417); have NB418_417 := ng hg (bk BK417); replace BK416 := bb (bk BK416) hb; replace BK417 := bb (bk BK417) hb; replace HB := hbb (hzs HB) hb; clear hb hbox hg)); go_upto_region 1 with (first | ((with_reducible refine gate_dst (N := 2) rfl ?_); refine bE 2 #[.int .i64 a0_0, .int .i64 a0_1] 31 ?_; intro gb416 hg w4 hbox hb; have BK416 := Aside0.mk (hbox); have GE416 := gw hg (hz0 HB); have GW416 := GE416; replace HB := hbb (hz0 HB) hb; clear hb hbox hg) | ((with_reducible refine gate_dst (N := 3) rfl ?_); refine bE 3 #[.int .i64 a1_0, .int .i64 a1_1] 31 ?_; intro gb417 hg w5 hbox hb; have BK417 := Aside0.mk (hbox); have GE417 := gw hg (hzs HB); have GW417 := GE417; have NB416_417 := nl hg (bk BK416); have NB417_416 := ng hg (bk BK416); replace BK416 := bb (bk BK416) hb; replace HB := hbb (hzs HB) hb; clear hb hbox hg) | ((with_reducible refine gate_dst (N := 4) rfl ?_); refine bE 4 #[.int .i64 0, .int .i64 0] 31 ?_; intro gb418 hg w6 hbox hb; have BK418 := Aside0.mk (hbox); have GE418 := gw hg (hzs HB); have GW418 := GE418; have NB416_418 := nl hg (bk BK416); have NB418_416 := ng hg (bk BK416); have NB417_418 := nl hg (bk BK417); have NB418_417 := ng hg (bk BK417); replace BK416 := bb (bk BK416) hb; replace BK417 := bb (bk BK417) hb; replace HB := hbb (hzs HB) hb; clear hb hbox hg)))
 (try simp only [Act.put, List.setIfInBounds_toArray, List.set_cons_zero, List.set_cons_succ])
 go_cut [17] (fun v17 wc => ∃ (kq : Nat) (x17_2 : Bool), v17 = .bool x17_2 ∧ Aside0 (impl_SpanMul.j0 kq x17_2 a0_0 a0_1 a1_0 a1_1 = some (r1, r2, r3)) ∧ Aside0 (kq ≤ k) ∧ Aside0 (wc.heap[gb416]? = some (.cells #[.int .i64 a0_0, .int .i64 a0_1] 31 (0, 0))) ∧ Aside0 (wc.heap[gb417]? = some (.cells #[.int .i64 a1_0, .int .i64 a1_1] 31 (0, 0))) ∧ Aside0 (wc.heap[gb418]? = some (.cells #[.int .i64 0, .int .i64 0] 31 (0, 0))) ∧ Aside0 (Below w.heap.size w wc))
 case first =>
  have H := HC3.out
  clear HC3
  replace H := Option.bind_eq_some_iff.mp H
  obtain ⟨t419, A70, H⟩ := H
  try dsimp only at H
  have A7 := Aside0.mk A70
  clear A70
  by_cases c8 : t419 = true
  ·subst c8
   rw [if_pos rfl] at H
   replace H := Option.bind_eq_some_iff.mp H
   obtain ⟨t420, A90, H⟩ := H
   try dsimp only at H
   have A9 := Aside0.mk A90
   clear A90
   have H' := Aside0.mk H
   clear H
   have hnb10 := NB416_417.out
   have hnc10 := NB417_416.out
   have hnb11 := NB416_418.out
   have hnc11 := NB418_416.out
   obtain ⟨hcz12_0, hcz12_1, hfz12_0, hfz12_1⟩ := cz2 BK416
   go_wp2_with (first | (go_at_call 35; (with_reducible refine (impl_SpanOk.calls a0_0 a0_1 true _ A7.out).mono ?_); rintro e w13 ⟨rfl, hb⟩; replace BK416 := bb (bk BK416) hb; replace BK417 := bb (bk BK417) hb; replace BK418 := bb (bk BK418) hb; replace HB := hbb (hzs HB) hb; clear hb; have hnb14 := NB417_418.out; have hnc14 := NB418_417.out; obtain ⟨hcz15_0, hcz15_1, hfz15_0, hfz15_1⟩ := cz2 BK417) | (go_at_call 35; (with_reducible refine (impl_SpanOk.calls a1_0 a1_1 t420 _ A9.out).mono ?_); rintro e w16 ⟨rfl, hb⟩; replace BK416 := bb (bk BK416) hb; replace BK417 := bb (bk BK417) hb; replace BK418 := bb (bk BK418) hb; replace HB := hbb (hzs HB) hb; clear hb))
   repeat (go_quiet (first | (go_at_call 35; (with_reducible refine (impl_SpanOk.calls a0_0 a0_1 true _ A7.out).mono ?_); rintro e w13 ⟨rfl, hb⟩; replace BK416 := bb (bk BK416) hb; replace BK417 := bb (bk BK417) hb; replace BK418 := bb (bk BK418) hb; replace HB := hbb (hzs HB) hb; clear hb; have hnb14 := NB417_418.out; have hnc14 := NB418_417.out; obtain ⟨hcz15_0, hcz15_1, hfz15_0, hfz15_1⟩ := cz2 BK417) | (go_at_call 35; (with_reducible refine (impl_SpanOk.calls a1_0 a1_1 t420 _ A9.out).mono ?_); rintro e w16 ⟨rfl, hb⟩; replace BK416 := bb (bk BK416) hb; replace BK417 := bb (bk BK417) hb; replace BK418 := bb (bk BK418) hb; replace HB := hbb (hzs HB) hb; clear hb)); try go_wp2_with (first | (go_at_call 35; (with_reducible refine (impl_SpanOk.calls a0_0 a0_1 true _ A7.out).mono ?_); rintro e w13 ⟨rfl, hb⟩; replace BK416 := bb (bk BK416) hb; replace BK417 := bb (bk BK417) hb; replace BK418 := bb (bk BK418) hb; replace HB := hbb (hzs HB) hb; clear hb; have hnb14 := NB417_418.out; have hnc14 := NB418_417.out; obtain ⟨hcz15_0, hcz15_1, hfz15_0, hfz15_1⟩ := cz2 BK417) | (go_at_call 35; (with_reducible refine (impl_SpanOk.calls a1_0 a1_1 t420 _ A9.out).mono ?_); rintro e w16 ⟨rfl, hb⟩; replace BK416 := bb (bk BK416) hb; replace BK417 := bb (bk BK417) hb; replace BK418 := bb (bk BK418) hb; replace HB := hbb (hzs HB) hb; clear hb)))
   go_meet
   case rel => exact ⟨_, (!t420), (by first | rfl | (simp; done) | (simp [*]; done)), H', ⟨by first | omega | exact Nat.le_refl _⟩, ⟨bk BK416⟩, ⟨bk BK417⟩, ⟨bk BK418⟩, ⟨hzs HB⟩⟩
  ·replace c8 := Bool.eq_false_iff.mpr c8
   subst c8
   rw [if_neg (show ¬ (false = true) by decide)] at H
   have H' := Aside0.mk H
   clear H
   have hnb17 := NB416_417.out
   have hnc17 := NB417_416.out
   have hnb18 := NB416_418.out
   have hnc18 := NB418_416.out
   obtain ⟨hcz19_0, hcz19_1, hfz19_0, hfz19_1⟩ := cz2 BK416
   go_wp2_with (first | (go_at_call 35; (with_reducible refine (impl_SpanOk.calls a0_0 a0_1 false _ A7.out).mono ?_); rintro e w20 ⟨rfl, hb⟩; replace BK416 := bb (bk BK416) hb; replace BK417 := bb (bk BK417) hb; replace BK418 := bb (bk BK418) hb; replace HB := hbb (hzs HB) hb; clear hb))
   repeat (go_quiet (first | (go_at_call 35; (with_reducible refine (impl_SpanOk.calls a0_0 a0_1 false _ A7.out).mono ?_); rintro e w20 ⟨rfl, hb⟩; replace BK416 := bb (bk BK416) hb; replace BK417 := bb (bk BK417) hb; replace BK418 := bb (bk BK418) hb; replace HB := hbb (hzs HB) hb; clear hb)); try go_wp2_with (first | (go_at_call 35; (with_reducible refine (impl_SpanOk.calls a0_0 a0_1 false _ A7.out).mono ?_); rintro e w20 ⟨rfl, hb⟩; replace BK416 := bb (bk BK416) hb; replace BK417 := bb (bk BK417) hb; replace BK418 := bb (bk BK418) hb; replace HB := hbb (hzs HB) hb; clear hb)))
   go_meet
   case rel => exact ⟨_, (true), (by first | rfl | (simp; done) | (simp [*]; done)), H', ⟨by first | omega | exact Nat.le_refl _⟩, ⟨bk BK416⟩, ⟨bk BK417⟩, ⟨bk BK418⟩, ⟨hzs HB⟩⟩
 case rest =>
  clear HC3
  try clear c1
  try clear p2
  try clear c6
  try clear c8
  try clear c10
  try clear c11
  try clear c14
  try clear c17
  try clear c18
  try clear hcz12_0 hcz12_1
  try clear hcz15_0 hcz15_1
  try clear hcz19_0 hcz19_1
  try clear hfz12_0 hfz12_1
  try clear hfz15_0 hfz15_1
  try clear hfz19_0 hfz19_1
  obtain ⟨kq, x17_2, rfl, HA, HJ2, BK416, BK417, BK418, HB⟩ := hcut
  cases kq with
  | zero => exact absurd HA.out (by simp [impl_SpanMul.j0])
  | succ kj2 =>
   have H := HA.out
   clear HA
   simp only [impl_SpanMul.j0] at H
   by_cases c21 : x17_2 = true
   ·subst c21
    rw [if_pos rfl] at H
    simp only [Option.some.injEq, Prod.mk.injEq] at H
    obtain ⟨rfl, rfl, rfl⟩ := H
    have hnb22 := NB418_416.out
    have hnc22 := NB416_418.out
    have hnb23 := NB418_417.out
    have hnc23 := NB417_418.out
    obtain ⟨hcz24_0, hcz24_1, hfz24_0, hfz24_1⟩ := cz2 BK418
    go_wp2
    repeat (go_quiet (fail); try go_wp2)
    refine bodyPost_ret (results_ct rfl _ _ gb418 31 #[.int .i64 0, .int .i64 0] (0, 0) _ rfl (bkp BK418) Try.underlying31 rfl (by kernel_rfl)) rfl ?_
    exact ⟨by first | rfl | (simp [errW_none, errW_some] <;> rfl) | (simp [*, errW_none, errW_some] <;> rfl), hzs HB⟩
   ·replace c21 := Bool.eq_false_iff.mpr c21
    subst c21
    rw [if_neg (show ¬ (false = true) by decide)] at H
    obtain ⟨ji25, hji25⟩ : ∃ j_ : Int, (mn (wrap64 (a0_0 * a1_0)) (wrap64 (a0_0 * a1_1))) = j_ := ⟨_, rfl⟩
    first | rw [hji25] at H | simp only [hji25] at H
    have hji25_ : (if (wrap64 (a0_0 * a1_1)) < (wrap64 (a0_0 * a1_0)) then (wrap64 (a0_0 * a1_1)) else (wrap64 (a0_0 * a1_0))) = ji25 := hji25
    obtain ⟨ji26, hji26⟩ : ∃ j_ : Int, (mn (ji25) (wrap64 (a0_1 * a1_0))) = j_ := ⟨_, rfl⟩
    first | rw [hji26] at H | simp only [hji26] at H
    have hji26_ : (if (wrap64 (a0_1 * a1_0)) < (ji25) then (wrap64 (a0_1 * a1_0)) else (ji25)) = ji26 := hji26
    obtain ⟨ji27, hji27⟩ : ∃ j_ : Int, (mn (ji26) (wrap64 (a0_1 * a1_1))) = j_ := ⟨_, rfl⟩
    first | rw [hji27] at H | simp only [hji27] at H
    have hji27_ : (if (wrap64 (a0_1 * a1_1)) < (ji26) then (wrap64 (a0_1 * a1_1)) else (ji26)) = ji27 := hji27
    replace H := Option.bind_eq_some_iff.mp H
    obtain ⟨t421, A280, H⟩ := H
    try dsimp only at H
    have A28 := Aside0.mk A280
    clear A280
    obtain ⟨ji29, hji29⟩ : ∃ j_ : Int, (mx (wrap64 (a0_0 * a1_0)) (wrap64 (a0_0 * a1_1))) = j_ := ⟨_, rfl⟩
    first | rw [hji29] at H | simp only [hji29] at H
    (try rw [hji29] at A28)
    have hji29_ : (if (wrap64 (a0_0 * a1_0)) < (wrap64 (a0_0 * a1_1)) then (wrap64 (a0_0 * a1_1)) else (wrap64 (a0_0 * a1_0))) = ji29 := hji29
    obtain ⟨ji30, hji30⟩ : ∃ j_ : Int, (mx (ji29) (wrap64 (a0_1 * a1_0))) = j_ := ⟨_, rfl⟩
    first | rw [hji30] at H | simp only [hji30] at H
    (try rw [hji30] at A28)
    have hji30_ : (if (ji29) < (wrap64 (a0_1 * a1_0)) then (wrap64 (a0_1 * a1_0)) else (ji29)) = ji30 := hji30
    obtain ⟨ji31, hji31⟩ : ∃ j_ : Int, (mx (ji30) (wrap64 (a0_1 * a1_1))) = j_ := ⟨_, rfl⟩
    first | rw [hji31] at H | simp only [hji31] at H
    (try rw [hji31] at A28)
    have hji31_ : (if (ji30) < (wrap64 (a0_1 * a1_1)) then (wrap64 (a0_1 * a1_1)) else (ji30)) = ji31 := hji31
    replace H := Option.bind_eq_some_iff.mp H
    obtain ⟨t422, A320, H⟩ := H
    try dsimp only at H
    have A32 := Aside0.mk A320
    clear A320
    replace H := Option.bind_eq_some_iff.mp H
    obtain ⟨⟨t423, t424, t425⟩, A330, H⟩ := H
    try dsimp only at H
    have A33 := Aside0.mk A330
    clear A330
    simp only [Option.some.injEq, Prod.mk.injEq] at H
    obtain ⟨rfl, rfl, rfl⟩ := H
    have hnb34 := NB416_417.out
    have hnc34 := NB417_416.out
    have hnb35 := NB416_418.out
    have hnc35 := NB418_416.out
    obtain ⟨hcz36_0, hcz36_1, hfz36_0, hfz36_1⟩ := cz2 BK416
    have hnb37 := NB417_418.out
    have hnc37 := NB418_417.out
    obtain ⟨hcz38_0, hcz38_1, hfz38_0, hfz38_1⟩ := cz2 BK417
    go_wp2_with (first | (go_at_call 72; (with_reducible refine (impl_down.calls ji27 1000000000 t421 _ A28.out).mono ?_); rintro e w' ⟨rfl, ⟨nd, rfl⟩⟩; (try first | exact ⟨rfl, _, World.drewN_drewN _ _ _⟩ | exact ⟨rfl, _, Eq.trans (World.drewN_drewN _ _ _) (congrArg (World.drewN _) (Nat.add_assoc _ _ _))⟩)) | (go_at_call 73; (with_reducible refine (impl_up.calls ji31 1000000000 t422 _ A32.out).mono ?_); rintro e w' ⟨rfl, ⟨nd, rfl⟩⟩; (try first | exact ⟨rfl, _, World.drewN_drewN _ _ _⟩ | exact ⟨rfl, _, Eq.trans (World.drewN_drewN _ _ _) (congrArg (World.drewN _) (Nat.add_assoc _ _ _))⟩)) | (go_at_call 86; (with_reducible refine (impl_told.calls t421 t422 t423 t424 t425 _ A33.out).mono ?_); rintro e w39 ⟨rfl, hb⟩; replace BK416 := bb (bk BK416) hb; replace BK417 := bb (bk BK417) hb; replace BK418 := bb (bk BK418) hb; replace HB := hbb (hzs HB) hb; clear hb; obtain ⟨hcz40_0, hcz40_1, hfz40_0, hfz40_1⟩ := cz2 BK418))
    repeat (go_quiet (first | (go_at_call 72; (with_reducible refine (impl_down.calls ji27 1000000000 t421 _ A28.out).mono ?_); rintro e w' ⟨rfl, ⟨nd, rfl⟩⟩; (try first | exact ⟨rfl, _, World.drewN_drewN _ _ _⟩ | exact ⟨rfl, _, Eq.trans (World.drewN_drewN _ _ _) (congrArg (World.drewN _) (Nat.add_assoc _ _ _))⟩)) | (go_at_call 73; (with_reducible refine (impl_up.calls ji31 1000000000 t422 _ A32.out).mono ?_); rintro e w' ⟨rfl, ⟨nd, rfl⟩⟩; (try first | exact ⟨rfl, _, World.drewN_drewN _ _ _⟩ | exact ⟨rfl, _, Eq.trans (World.drewN_drewN _ _ _) (congrArg (World.drewN _) (Nat.add_assoc _ _ _))⟩)) | (go_at_call 86; (with_reducible refine (impl_told.calls t421 t422 t423 t424 t425 _ A33.out).mono ?_); rintro e w39 ⟨rfl, hb⟩; replace BK416 := bb (bk BK416) hb; replace BK417 := bb (bk BK417) hb; replace BK418 := bb (bk BK418) hb; replace HB := hbb (hzs HB) hb; clear hb; obtain ⟨hcz40_0, hcz40_1, hfz40_0, hfz40_1⟩ := cz2 BK418)); try go_wp2_with (first | (go_at_call 72; (with_reducible refine (impl_down.calls ji27 1000000000 t421 _ A28.out).mono ?_); rintro e w' ⟨rfl, ⟨nd, rfl⟩⟩; (try first | exact ⟨rfl, _, World.drewN_drewN _ _ _⟩ | exact ⟨rfl, _, Eq.trans (World.drewN_drewN _ _ _) (congrArg (World.drewN _) (Nat.add_assoc _ _ _))⟩)) | (go_at_call 73; (with_reducible refine (impl_up.calls ji31 1000000000 t422 _ A32.out).mono ?_); rintro e w' ⟨rfl, ⟨nd, rfl⟩⟩; (try first | exact ⟨rfl, _, World.drewN_drewN _ _ _⟩ | exact ⟨rfl, _, Eq.trans (World.drewN_drewN _ _ _) (congrArg (World.drewN _) (Nat.add_assoc _ _ _))⟩)) | (go_at_call 86; (with_reducible refine (impl_told.calls t421 t422 t423 t424 t425 _ A33.out).mono ?_); rintro e w39 ⟨rfl, hb⟩; replace BK416 := bb (bk BK416) hb; replace BK417 := bb (bk BK417) hb; replace BK418 := bb (bk BK418) hb; replace HB := hbb (hzs HB) hb; clear hb; obtain ⟨hcz40_0, hcz40_1, hfz40_0, hfz40_1⟩ := cz2 BK418)))
    refine bodyPost_ret (results_ct rfl _ _ gb418 31 #[.int .i64 t423, .int .i64 t424] (0, 0) _ rfl (bkp BK418) Try.underlying31 rfl (by kernel_rfl)) rfl ?_
    exact ⟨by first | rfl | (simp [errW_none, errW_some] <;> rfl) | (simp only [← hji25, ← hji26, ← hji27, ← hji29, ← hji30, ← hji31]; first | rfl | (simp [errW_none, errW_some] <;> rfl)) | (simp [*, errW_none, errW_some] <;> rfl), hzs HB⟩


/-! ### impl_SpanAdd: function 62 -/
def impl_SpanAdd.f (a0_0 : Int) (a0_1 : Int) (a1_0 : Int) (a1_1 : Int) : Option (Int × Int × Bool) := (impl_SpanOk.f a0_0 a0_1).bind fun t402 => (if t402 = true then ((impl_SpanOk.f a1_0 a1_1).bind fun t403 => (if t403 = true then ((impl_told.f (wrap64 (a0_0 + a1_0)) (wrap64 (a0_1 + a1_1))).bind fun bt404 => (some (bt404.1, bt404.2.1, bt404.2.2))) else (some (0, 0, false)))) else (some (0, 0, false)))
set_option maxHeartbeats 8000000 in
set_option maxRecDepth 100000 in
theorem impl_SpanAdd.calls (a0_0 : Int) (a0_1 : Int) (a1_0 : Int) (a1_1 : Int) (r1 : Int) (r2 : Int) (r3 : Bool) (w : World) (h : impl_SpanAdd.f a0_0 a0_1 a1_0 a1_1 = some (r1, r2, r3)) :
  Calls Try.prog 62 #[.agg #[.int .i64 a0_0, .int .i64 a0_1], .agg #[.int .i64 a1_0, .int .i64 a1_1]] w fun e w' => e = .returned (.tuple #[.agg #[.int .i64 r1, .int .i64 r2], .bool r3]) ∧ Below w.heap.size w w' := by
 have hu31 := Try.underlying31
 have HB := Aside0.mk (Below.refl w.heap.size w)
 have H := h
 clear h
 unfold impl_SpanAdd.f at H
 replace H := Option.bind_eq_some_iff.mp H
 obtain ⟨t402, A30, H⟩ := H
 try dsimp only at H
 have A3 := Aside0.mk A30
 clear A30
 by_cases c4 : t402 = true
 ·subst c4
  rw [if_pos rfl] at H
  replace H := Option.bind_eq_some_iff.mp H
  obtain ⟨t403, A50, H⟩ := H
  try dsimp only at H
  have A5 := Aside0.mk A50
  clear A50
  by_cases c6 : t403 = true
  ·subst c6
   rw [if_pos rfl] at H
   replace H := Option.bind_eq_some_iff.mp H
   obtain ⟨⟨t404, t405, t406⟩, A70, H⟩ := H
   try dsimp only at H
   have A7 := Aside0.mk A70
   clear A70
   simp only [Option.some.injEq, Prod.mk.injEq] at H
   obtain ⟨rfl, rfl, rfl⟩ := H
   go_enter Try.func62, Try.ntmps62
   go_wp2_with (first | ((with_reducible refine gate_dst (N := 2) rfl ?_); refine bE 2 #[.int .i64 a0_0, .int .i64 a0_1] 31 ?_; intro gb399 hg w8 hbox hb; have BK399 := Aside0.mk (hbox); have GE399 := gw hg (hz0 HB); have GW399 := GE399; replace HB := hbb (hz0 HB) hb; clear hb hbox hg) | ((with_reducible refine gate_dst (N := 3) rfl ?_); refine bE 3 #[.int .i64 a1_0, .int .i64 a1_1] 31 ?_; intro gb400 hg w9 hbox hb; have BK400 := Aside0.mk (hbox); have GE400 := gw hg (hzs HB); have GW400 := GE400; have NB399_400 := nl hg (bk BK399); have NB400_399 := ng hg (bk BK399); replace BK399 := bb (bk BK399) hb; replace HB := hbb (hzs HB) hb; clear hb hbox hg) | ((with_reducible refine gate_dst (N := 4) rfl ?_); refine bE 4 #[.int .i64 0, .int .i64 0] 31 ?_; intro gb401 hg w10 hbox hb; have BK401 := Aside0.mk (hbox); have GE401 := gw hg (hzs HB); have GW401 := GE401; have NB399_401 := nl hg (bk BK399); have NB401_399 := ng hg (bk BK399); have NB400_401 := nl hg (bk BK400); have NB401_400 := ng hg (bk BK400); replace BK399 := bb (bk BK399) hb; replace BK400 := bb (bk BK400) hb; replace HB := hbb (hzs HB) hb; clear hb hbox hg; have hnb11 := NB399_400.out; have hnc11 := NB400_399.out; have hnb12 := NB399_401.out; have hnc12 := NB401_399.out; obtain ⟨hcz13_0, hcz13_1, hfz13_0, hfz13_1⟩ := cz2 BK399) | ((with_reducible refine gate_callee (f := 35) rfl ?_); refine gL 7 Try.func35 #[.agg #[.int .i64 a0_0, .int .i64 a0_1]] ?_; (with_reducible refine (impl_SpanOk.calls a0_0 a0_1 true _ A3.out).mono ?_); rintro e w14 ⟨rfl, hb⟩; refine ⟨_, rfl, ?_⟩; replace BK399 := bb (bk BK399) hb; replace BK400 := bb (bk BK400) hb; replace BK401 := bb (bk BK401) hb; replace HB := hbb (hzs HB) hb; clear hb; have hnb15 := NB400_401.out; have hnc15 := NB401_400.out; obtain ⟨hcz16_0, hcz16_1, hfz16_0, hfz16_1⟩ := cz2 BK400) | (go_at_call 35; (with_reducible refine (impl_SpanOk.calls a1_0 a1_1 true _ A5.out).mono ?_); rintro e w17 ⟨rfl, hb⟩; replace BK399 := bb (bk BK399) hb; replace BK400 := bb (bk BK400) hb; replace BK401 := bb (bk BK401) hb; replace HB := hbb (hzs HB) hb; clear hb; obtain ⟨hcz18_0, hcz18_1, hfz18_0, hfz18_1⟩ := cz2 BK399; obtain ⟨hcz19_0, hcz19_1, hfz19_0, hfz19_1⟩ := cz2 BK400) | ((with_reducible refine gate_callee (f := 86) rfl ?_); refine gL 26 Try.func86 #[.agg #[.int .i64 (wrap64 (a0_0 + a1_0)), .int .i64 (wrap64 (a0_1 + a1_1))]] ?_; (with_reducible refine (impl_told.calls (wrap64 (a0_0 + a1_0)) (wrap64 (a0_1 + a1_1)) t404 t405 t406 _ A7.out).mono ?_); rintro e w20 ⟨rfl, hb⟩; refine ⟨_, rfl, ?_⟩; replace BK399 := bb (bk BK399) hb; replace BK400 := bb (bk BK400) hb; replace BK401 := bb (bk BK401) hb; replace HB := hbb (hzs HB) hb; clear hb; obtain ⟨hcz21_0, hcz21_1, hfz21_0, hfz21_1⟩ := cz2 BK401))
   refine bodyPost_ret (results_ct rfl _ _ gb401 31 #[.int .i64 t404, .int .i64 t405] (0, 0) _ rfl (bkp BK401) Try.underlying31 rfl (by kernel_rfl)) rfl ?_
   exact ⟨by first | rfl | (simp [errW_none, errW_some] <;> rfl) | (simp [*, errW_none, errW_some] <;> rfl), hzs HB⟩
  ·replace c6 := Bool.eq_false_iff.mpr c6
   subst c6
   rw [if_neg (show ¬ (false = true) by decide)] at H
   simp only [Option.some.injEq, Prod.mk.injEq] at H
   obtain ⟨rfl, rfl, rfl⟩ := H
   go_enter Try.func62, Try.ntmps62
   go_wp2_with (first | ((with_reducible refine gate_dst (N := 2) rfl ?_); refine bE 2 #[.int .i64 a0_0, .int .i64 a0_1] 31 ?_; intro gb399 hg w22 hbox hb; have BK399 := Aside0.mk (hbox); have GE399 := gw hg (hz0 HB); have GW399 := GE399; replace HB := hbb (hz0 HB) hb; clear hb hbox hg) | ((with_reducible refine gate_dst (N := 3) rfl ?_); refine bE 3 #[.int .i64 a1_0, .int .i64 a1_1] 31 ?_; intro gb400 hg w23 hbox hb; have BK400 := Aside0.mk (hbox); have GE400 := gw hg (hzs HB); have GW400 := GE400; have NB399_400 := nl hg (bk BK399); have NB400_399 := ng hg (bk BK399); replace BK399 := bb (bk BK399) hb; replace HB := hbb (hzs HB) hb; clear hb hbox hg) | ((with_reducible refine gate_dst (N := 4) rfl ?_); refine bE 4 #[.int .i64 0, .int .i64 0] 31 ?_; intro gb401 hg w24 hbox hb; have BK401 := Aside0.mk (hbox); have GE401 := gw hg (hzs HB); have GW401 := GE401; have NB399_401 := nl hg (bk BK399); have NB401_399 := ng hg (bk BK399); have NB400_401 := nl hg (bk BK400); have NB401_400 := ng hg (bk BK400); replace BK399 := bb (bk BK399) hb; replace BK400 := bb (bk BK400) hb; replace HB := hbb (hzs HB) hb; clear hb hbox hg; have hnb25 := NB399_400.out; have hnc25 := NB400_399.out; have hnb26 := NB399_401.out; have hnc26 := NB401_399.out; obtain ⟨hcz27_0, hcz27_1, hfz27_0, hfz27_1⟩ := cz2 BK399) | ((with_reducible refine gate_callee (f := 35) rfl ?_); refine gL 7 Try.func35 #[.agg #[.int .i64 a0_0, .int .i64 a0_1]] ?_; (with_reducible refine (impl_SpanOk.calls a0_0 a0_1 true _ A3.out).mono ?_); rintro e w28 ⟨rfl, hb⟩; refine ⟨_, rfl, ?_⟩; replace BK399 := bb (bk BK399) hb; replace BK400 := bb (bk BK400) hb; replace BK401 := bb (bk BK401) hb; replace HB := hbb (hzs HB) hb; clear hb; have hnb29 := NB400_401.out; have hnc29 := NB401_400.out; obtain ⟨hcz30_0, hcz30_1, hfz30_0, hfz30_1⟩ := cz2 BK400) | (go_at_call 35; (with_reducible refine (impl_SpanOk.calls a1_0 a1_1 false _ A5.out).mono ?_); rintro e w31 ⟨rfl, hb⟩; replace BK399 := bb (bk BK399) hb; replace BK400 := bb (bk BK400) hb; replace BK401 := bb (bk BK401) hb; replace HB := hbb (hzs HB) hb; clear hb; obtain ⟨hcz32_0, hcz32_1, hfz32_0, hfz32_1⟩ := cz2 BK401))
   refine bodyPost_ret (results_ct rfl _ _ gb401 31 #[.int .i64 0, .int .i64 0] (0, 0) _ rfl (bkp BK401) Try.underlying31 rfl (by kernel_rfl)) rfl ?_
   exact ⟨by first | rfl | (simp [errW_none, errW_some] <;> rfl) | (simp [*, errW_none, errW_some] <;> rfl), hzs HB⟩
 ·replace c4 := Bool.eq_false_iff.mpr c4
  subst c4
  rw [if_neg (show ¬ (false = true) by decide)] at H
  simp only [Option.some.injEq, Prod.mk.injEq] at H
  obtain ⟨rfl, rfl, rfl⟩ := H
  go_enter Try.func62, Try.ntmps62
  go_wp2_with (first | ((with_reducible refine gate_dst (N := 2) rfl ?_); refine bE 2 #[.int .i64 a0_0, .int .i64 a0_1] 31 ?_; intro gb399 hg w33 hbox hb; have BK399 := Aside0.mk (hbox); have GE399 := gw hg (hz0 HB); have GW399 := GE399; replace HB := hbb (hz0 HB) hb; clear hb hbox hg) | ((with_reducible refine gate_dst (N := 3) rfl ?_); refine bE 3 #[.int .i64 a1_0, .int .i64 a1_1] 31 ?_; intro gb400 hg w34 hbox hb; have BK400 := Aside0.mk (hbox); have GE400 := gw hg (hzs HB); have GW400 := GE400; have NB399_400 := nl hg (bk BK399); have NB400_399 := ng hg (bk BK399); replace BK399 := bb (bk BK399) hb; replace HB := hbb (hzs HB) hb; clear hb hbox hg) | ((with_reducible refine gate_dst (N := 4) rfl ?_); refine bE 4 #[.int .i64 0, .int .i64 0] 31 ?_; intro gb401 hg w35 hbox hb; have BK401 := Aside0.mk (hbox); have GE401 := gw hg (hzs HB); have GW401 := GE401; have NB399_401 := nl hg (bk BK399); have NB401_399 := ng hg (bk BK399); have NB400_401 := nl hg (bk BK400); have NB401_400 := ng hg (bk BK400); replace BK399 := bb (bk BK399) hb; replace BK400 := bb (bk BK400) hb; replace HB := hbb (hzs HB) hb; clear hb hbox hg; have hnb36 := NB399_400.out; have hnc36 := NB400_399.out; have hnb37 := NB399_401.out; have hnc37 := NB401_399.out; obtain ⟨hcz38_0, hcz38_1, hfz38_0, hfz38_1⟩ := cz2 BK399) | ((with_reducible refine gate_callee (f := 35) rfl ?_); refine gL 7 Try.func35 #[.agg #[.int .i64 a0_0, .int .i64 a0_1]] ?_; (with_reducible refine (impl_SpanOk.calls a0_0 a0_1 false _ A3.out).mono ?_); rintro e w39 ⟨rfl, hb⟩; refine ⟨_, rfl, ?_⟩; replace BK399 := bb (bk BK399) hb; replace BK400 := bb (bk BK400) hb; replace BK401 := bb (bk BK401) hb; replace HB := hbb (hzs HB) hb; clear hb; have hnb40 := NB401_400.out; have hnc40 := NB400_401.out; obtain ⟨hcz41_0, hcz41_1, hfz41_0, hfz41_1⟩ := cz2 BK401))
  refine bodyPost_ret (results_ct rfl _ _ gb401 31 #[.int .i64 0, .int .i64 0] (0, 0) _ rfl (bkp BK401) Try.underlying31 rfl (by kernel_rfl)) rfl ?_
  exact ⟨by first | rfl | (simp [errW_none, errW_some] <;> rfl) | (simp [*, errW_none, errW_some] <;> rfl), hzs HB⟩


/-! ### impl_SpanSub: function 63 -/
def impl_SpanSub.f (a0_0 : Int) (a0_1 : Int) (a1_0 : Int) (a1_1 : Int) : Option (Int × Int × Bool) := (impl_SpanOk.f a1_0 a1_1).bind fun t410 => (if t410 = true then ((impl_SpanNeg.f a1_0 a1_1).bind fun bt411 => ((impl_SpanAdd.f a0_0 a0_1 bt411.1 bt411.2).bind fun bt413 => (some (bt413.1, bt413.2.1, bt413.2.2)))) else (some (0, 0, false)))
def impl_SpanSub.T3 : Bool × List (List Nat × List Nat) := (true, [([], []), ([], []), ([1], [1]), ([0, 2, 2], [0, 2]), ([3], [3]), ([3], [3]), ([4, 3, 0, 1, 2, 3, 4, 5], [4]), ([5, 6, 0, 1, 2, 3, 4, 5, 6], [5])])
def impl_SpanSub.B3 : List Nat := [0, 0, 2, 7, 15, 15, 63, 127]
theorem impl_SpanSub.tab3 : rtab .any (opsOf Try.f63 3) = impl_SpanSub.T3 := by kernel_rfl
theorem impl_SpanSub.bits3 : waitsOk impl_SpanSub.T3.2 impl_SpanSub.B3 = true := by kernel_rfl
set_option maxHeartbeats 8000000 in
set_option maxRecDepth 100000 in
theorem impl_SpanSub.calls (a0_0 : Int) (a0_1 : Int) (a1_0 : Int) (a1_1 : Int) (r1 : Int) (r2 : Int) (r3 : Bool) (w : World) (h : impl_SpanSub.f a0_0 a0_1 a1_0 a1_1 = some (r1, r2, r3)) :
  Calls Try.prog 63 #[.agg #[.int .i64 a0_0, .int .i64 a0_1], .agg #[.int .i64 a1_0, .int .i64 a1_1]] w fun e w' => e = .returned (.tuple #[.agg #[.int .i64 r1, .int .i64 r2], .bool r3]) ∧ Below w.heap.size w w' := by
 have hu31 := Try.underlying31
 have HB := Aside0.mk (Below.refl w.heap.size w)
 have H := h
 clear h
 unfold impl_SpanSub.f at H
 replace H := Option.bind_eq_some_iff.mp H
 obtain ⟨t410, A30, H⟩ := H
 try dsimp only at H
 have A3 := Aside0.mk A30
 clear A30
 by_cases c4 : t410 = true
 ·subst c4
  rw [if_pos rfl] at H
  replace H := Option.bind_eq_some_iff.mp H
  obtain ⟨⟨t411, t412⟩, A50, H⟩ := H
  try dsimp only at H
  have A5 := Aside0.mk A50
  clear A50
  replace H := Option.bind_eq_some_iff.mp H
  obtain ⟨⟨t413, t414, t415⟩, A60, H⟩ := H
  try dsimp only at H
  have A6 := Aside0.mk A60
  clear A60
  simp only [Option.some.injEq, Prod.mk.injEq] at H
  obtain ⟨rfl, rfl, rfl⟩ := H
  go_enter Try.func63, Try.ntmps63
  try go_wp2_with (first | ((with_reducible refine gate_dst (N := 2) rfl ?_); refine bE 2 #[.int .i64 a0_0, .int .i64 a0_1] 31 ?_; intro gb407 hg w7 hbox hb; have BK407 := Aside0.mk (hbox); have GE407 := gw hg (hz0 HB); have GW407 := GE407; replace HB := hbb (hz0 HB) hb; clear hb hbox hg) | ((with_reducible refine gate_dst (N := 3) rfl ?_); refine bE 3 #[.int .i64 a1_0, .int .i64 a1_1] 31 ?_; intro gb408 hg w8 hbox hb; have BK408 := Aside0.mk (hbox); have GE408 := gw hg (hzs HB); have GW408 := GE408; have NB407_408 := nl hg (bk BK407); have NB408_407 := ng hg (bk BK407); replace BK407 := bb (bk BK407) hb; replace HB := hbb (hzs HB) hb; clear hb hbox hg) | ((with_reducible refine gate_dst (N := 4) rfl ?_); refine bE 4 #[.int .i64 0, .int .i64 0] 31 ?_; intro gb409 hg w9 hbox hb; have BK409 := Aside0.mk (hbox); have GE409 := gw hg (hzs HB); have GW409 := GE409; have NB407_409 := nl hg (bk BK407); have NB409_407 := ng hg (bk BK407); have NB408_409 := nl hg (bk BK408); have NB409_408 := ng hg (bk BK408); replace BK407 := bb (bk BK407) hb; replace BK408 := bb (bk BK408) hb; replace HB := hbb (hzs HB) hb; clear hb hbox hg; have hnb10 := NB408_407.out; have hnc10 := NB407_408.out; have hnb11 := NB408_409.out; have hnc11 := NB409_408.out; obtain ⟨hcz12_0, hcz12_1, hfz12_0, hfz12_1⟩ := cz2 BK408) | ((with_reducible refine gate_callee (f := 35) rfl ?_); refine gL 7 Try.func35 #[.agg #[.int .i64 a1_0, .int .i64 a1_1]] ?_; (with_reducible refine (impl_SpanOk.calls a1_0 a1_1 true _ A3.out).mono ?_); rintro e w13 ⟨rfl, hb⟩; refine ⟨_, rfl, ?_⟩; replace BK407 := bb (bk BK407) hb; replace BK408 := bb (bk BK408) hb; replace BK409 := bb (bk BK409) hb; replace HB := hbb (hzs HB) hb; clear hb))
  replace BK407 := Aside0.mk (blk_drew BK407.out)
  replace BK408 := Aside0.mk (blk_drew BK408.out)
  replace BK409 := Aside0.mk (blk_drew BK409.out)
  replace HB := Aside0.mk (below_drew1 HB.out)
  refine start_ (n := 8) (S := fun w' => w'.cell? ⟨gb407, 0, none⟩ = some (.int .i64 a0_0) ∧ w'.cell? ⟨gb407, 1, none⟩ = some (.int .i64 a0_1) ∧ w'.cell? ⟨gb408, 0, none⟩ = some (.int .i64 a1_0) ∧ w'.cell? ⟨gb408, 1, none⟩ = some (.int .i64 a1_1)) (ds := []) #[false, false, false, false, false, false, false, false] (by kernel_rfl) rfl rfl ⟨cw0 BK407, cw1 BK407, cw0 BK408, cw1 BK408⟩ (fun hHeld => ?_); refine with_tabW impl_SpanSub.tab3 impl_SpanSub.bits3 (fun HT_ HW_ => ?_)
  generalize w13.drew = w14 at BK407 BK408 BK409 HB hHeld ⊢
  refine take_ (i := 0) (N := some 10) (v := ?_) (a' := ?_) #[true, false, false, false, false, false, false, false] rfl rfl (take_ofW HT_.out HW_.out (by kernel_rfl)) (fun _ _ _ h => h) (Or.inl ⟨by rfl, ?_⟩) hHeld ?_ ?_
  rotate_left
  ·rintro w' ⟨s0, s1, s2, s3⟩
   go_simp
   with_reducible rfl
  rotate_left
  ·simp only [Act.put, List.setIfInBounds_toArray, List.set_cons_zero, List.set_cons_succ, i64_w, i32_w]
   rfl
  refine take_ (i := 1) (N := some 11) (v := ?_) (a' := ?_) #[true, true, false, false, false, false, false, false] rfl rfl (take_ofW HT_.out HW_.out (by kernel_rfl)) (fun _ _ _ h => h) (Or.inl ⟨by rfl, ?_⟩) hHeld ?_ ?_
  rotate_left
  ·rintro w' ⟨s0, s1, s2, s3⟩
   go_simp
   with_reducible rfl
  rotate_left
  ·simp only [Act.put, List.setIfInBounds_toArray, List.set_cons_zero, List.set_cons_succ, i64_w, i32_w]
   rfl
  refine oN 2 12 #[true, true, true, false, false, false, false, false] HT_ (fun K hK => ?_)
  refine gS Try.func34 #[.agg #[.int .i64 a1_0, .int .i64 a1_1]] ?_
  with_reducible refine (impl_SpanNeg.calls a1_0 a1_1 t411 t412 _ A5.out).mono ?_
  rintro e w15 ⟨rfl, hb⟩
  refine ⟨_, rfl, ?_⟩
  replace BK407 := bb (bk BK407) hb
  replace BK408 := bb (bk BK408) hb
  replace BK409 := bb (bk BK409) hb
  replace HB := hbb (hzs HB) hb
  clear hb
  refine hK.out _ _ ⟨cw0 BK407, cw1 BK407, cw0 BK408, cw1 BK408⟩ (fun hHeld => ?_)
  clear hK K
  refine nP ?_
  refine oN 3 13 #[true, true, true, true, false, false, false, false] HT_ (fun K hK => ?_)
  refine gS Try.func62 #[.agg #[.int .i64 a0_0, .int .i64 a0_1], .agg #[.int .i64 t411, .int .i64 t412]] ?_
  with_reducible refine (impl_SpanAdd.calls a0_0 a0_1 t411 t412 t413 t414 t415 _ A6.out).mono ?_
  rintro e w16 ⟨rfl, hb⟩
  refine ⟨_, rfl, ?_⟩
  replace BK407 := bb (bk BK407) hb
  replace BK408 := bb (bk BK408) hb
  replace BK409 := bb (bk BK409) hb
  replace HB := hbb (hzs HB) hb
  clear hb
  refine hK.out _ _ ⟨cw0 BK407, cw1 BK407, cw0 BK408, cw1 BK408⟩ (fun hHeld => ?_)
  clear hK K
  refine nP ?_
  refine pU 4 14 #[true, true, true, true, true, false, false, false] HT_ ?_
  refine pU 5 15 #[true, true, true, true, true, true, false, false] HT_ ?_
  refine one_ (i := 6) (N := none) #[true, true, true, true, true, true, true, false] rfl rfl (one_of HT_.out (by kernel_rfl)) (by decide) (fun K hK => ?_)
  have hs17 : w16.cell? ⟨gb409, 0, none⟩ = some (.int .i64 0) := (blk_cell BK409.out 0).trans rfl
  have hfs17 := blk_frozen BK409.out 0
  have hns17_0 := NB407_409.out
  have hns17_1 := NB408_409.out
  have hms17_0 := NB409_407.out
  have hms17_1 := NB409_408.out
  have hs18 : w16.cell? ⟨gb409, 1, none⟩ = some (.int .i64 0) := (blk_cell BK409.out 1).trans rfl
  have hfs18 := blk_frozen BK409.out 1
  have hns18_0 := NB407_409.out
  have hns18_1 := NB408_409.out
  have hms18_0 := NB409_407.out
  have hms18_1 := NB409_408.out
  refine skip_ (w1 := ?_) (by rfl) rfl ?_ ?_
  rotate_left
  ·go_simp
   rfl
  refine hK.out _ _ ⟨((cell_far (p := ⟨gb409, _, none⟩) NB407_409.out _).trans (((cell_far (p := ⟨gb409, _, none⟩) NB407_409.out _).trans (hHeld.1)))), ((cell_far (p := ⟨gb409, _, none⟩) NB407_409.out _).trans (((cell_far (p := ⟨gb409, _, none⟩) NB407_409.out _).trans (hHeld.2.1)))), ((cell_far (p := ⟨gb409, _, none⟩) NB408_409.out _).trans (((cell_far (p := ⟨gb409, _, none⟩) NB408_409.out _).trans (hHeld.2.2.1)))), ((cell_far (p := ⟨gb409, _, none⟩) NB408_409.out _).trans (((cell_far (p := ⟨gb409, _, none⟩) NB408_409.out _).trans (hHeld.2.2.2))))⟩ (fun hHeld => ?_)
  clear hK K
  refine pU 7 5 #[true, true, true, true, true, true, true, true] HT_ ?_
  refine done_ (done_of HT_.out (by kernel_rfl)) ?_
  try go_wp2
  refine bodyPost_ret (results_ct rfl _ _ gb409 31 #[.int .i64 t413, .int .i64 t414] (0, 0) _ rfl (bkp BK409) Try.underlying31 rfl (by kernel_rfl)) rfl ?_
  exact ⟨by first | rfl | (simp [errW_none, errW_some] <;> rfl) | (simp [*, errW_none, errW_some] <;> rfl), hzs HB⟩
 ·replace c4 := Bool.eq_false_iff.mpr c4
  subst c4
  rw [if_neg (show ¬ (false = true) by decide)] at H
  simp only [Option.some.injEq, Prod.mk.injEq] at H
  obtain ⟨rfl, rfl, rfl⟩ := H
  go_enter Try.func63, Try.ntmps63
  go_wp2_with (first | ((with_reducible refine gate_dst (N := 2) rfl ?_); refine bE 2 #[.int .i64 a0_0, .int .i64 a0_1] 31 ?_; intro gb407 hg w19 hbox hb; have BK407 := Aside0.mk (hbox); have GE407 := gw hg (hz0 HB); have GW407 := GE407; replace HB := hbb (hz0 HB) hb; clear hb hbox hg) | ((with_reducible refine gate_dst (N := 3) rfl ?_); refine bE 3 #[.int .i64 a1_0, .int .i64 a1_1] 31 ?_; intro gb408 hg w20 hbox hb; have BK408 := Aside0.mk (hbox); have GE408 := gw hg (hzs HB); have GW408 := GE408; have NB407_408 := nl hg (bk BK407); have NB408_407 := ng hg (bk BK407); replace BK407 := bb (bk BK407) hb; replace HB := hbb (hzs HB) hb; clear hb hbox hg) | ((with_reducible refine gate_dst (N := 4) rfl ?_); refine bE 4 #[.int .i64 0, .int .i64 0] 31 ?_; intro gb409 hg w21 hbox hb; have BK409 := Aside0.mk (hbox); have GE409 := gw hg (hzs HB); have GW409 := GE409; have NB407_409 := nl hg (bk BK407); have NB409_407 := ng hg (bk BK407); have NB408_409 := nl hg (bk BK408); have NB409_408 := ng hg (bk BK408); replace BK407 := bb (bk BK407) hb; replace BK408 := bb (bk BK408) hb; replace HB := hbb (hzs HB) hb; clear hb hbox hg; have hnb22 := NB408_407.out; have hnc22 := NB407_408.out; have hnb23 := NB408_409.out; have hnc23 := NB409_408.out; obtain ⟨hcz24_0, hcz24_1, hfz24_0, hfz24_1⟩ := cz2 BK408) | ((with_reducible refine gate_callee (f := 35) rfl ?_); refine gL 7 Try.func35 #[.agg #[.int .i64 a1_0, .int .i64 a1_1]] ?_; (with_reducible refine (impl_SpanOk.calls a1_0 a1_1 false _ A3.out).mono ?_); rintro e w25 ⟨rfl, hb⟩; refine ⟨_, rfl, ?_⟩; replace BK407 := bb (bk BK407) hb; replace BK408 := bb (bk BK408) hb; replace BK409 := bb (bk BK409) hb; replace HB := hbb (hzs HB) hb; clear hb; have hnb26 := NB409_407.out; have hnc26 := NB407_409.out; obtain ⟨hcz27_0, hcz27_1, hfz27_0, hfz27_1⟩ := cz2 BK409))
  refine bodyPost_ret (results_ct rfl _ _ gb409 31 #[.int .i64 0, .int .i64 0] (0, 0) _ rfl (bkp BK409) Try.underlying31 rfl (by kernel_rfl)) rfl ?_
  exact ⟨by first | rfl | (simp [errW_none, errW_some] <;> rfl) | (simp [*, errW_none, errW_some] <;> rfl), hzs HB⟩


/-! ### impl_SpanDiv: function 65 -/
mutual
def impl_SpanDiv.j0 : Nat → Bool → Int → Int → Int → Int → Option (Int × Int × Bool)
 | 0, _, _, _, _, _ => none
 | k + 1, x22, x427000, x427001, x428000, x428001 => if x22 = true then (some (0, 0, false)) else (if x428001 < 0 then ((impl_SpanNeg.f x427000 x427001).bind fun bt432 => ((impl_SpanNeg.f x428000 x428001).bind fun bt434 => (impl_SpanDiv.j1 k bt432.1 bt432.2 bt434.1 bt434.2))) else (impl_SpanDiv.j1 k x427000 x427001 x428000 x428001))
def impl_SpanDiv.j1 : Nat → Int → Int → Int → Int → Option (Int × Int × Bool)
 | 0, _, _, _, _ => none
 | k + 1, x427000, x427001, x428000, x428001 => (impl_down.f (wrap64 (x427000 * 1000000000)) x428000).bind fun t436 => ((impl_down.f (wrap64 (x427000 * 1000000000)) x428001).bind fun t437 => ((impl_up.f (wrap64 (x427001 * 1000000000)) x428000).bind fun t438 => ((impl_up.f (wrap64 (x427001 * 1000000000)) x428001).bind fun t439 => ((impl_told.f (mn t436 t437) (mx t438 t439)).bind fun bt440 => (some (bt440.1, bt440.2.1, bt440.2.2))))))
end
def impl_SpanDiv.f (k : Nat) (a0_0 : Int) (a0_1 : Int) (a1_0 : Int) (a1_1 : Int) : Option (Int × Int × Bool) := (impl_SpanOk.f a0_0 a0_1).bind fun t429 => (if t429 = true then ((impl_SpanOk.f a1_0 a1_1).bind fun t430 => (if t430 = true then ((impl_in.f 0 a1_0 a1_1).bind fun t431 => (impl_SpanDiv.j0 k t431 a0_0 a0_1 a1_0 a1_1)) else (impl_SpanDiv.j0 k true a0_0 a0_1 a1_0 a1_1))) else (impl_SpanDiv.j0 k true a0_0 a0_1 a1_0 a1_1))
def impl_SpanDiv.T5 : Bool × List (List Nat × List Nat) := (true, [([], []), ([0], [0]), ([1], [1]), ([], []), ([3], [3]), ([4], [4]), ([2, 0, 1, 2], [2]), ([5, 6, 0, 1, 2, 3, 4, 5, 6], [5])])
def impl_SpanDiv.B5 : List Nat := [0, 1, 3, 0, 8, 24, 7, 127]
theorem impl_SpanDiv.tab5 : rtab .any (opsOf Try.f65 5) = impl_SpanDiv.T5 := by kernel_rfl
theorem impl_SpanDiv.bits5 : waitsOk impl_SpanDiv.T5.2 impl_SpanDiv.B5 = true := by kernel_rfl
def impl_SpanDiv.T6 : Bool × List (List Nat × List Nat) := (true, [([], []), ([], []), ([1], [1]), ([0, 2], [0, 2]), ([], []), ([], []), ([5], [5]), ([4, 6, 3], [4, 6]), ([3, 7], [3, 7]), ([], []), ([], []), ([10], [10]), ([9, 11, 7], [9, 11]), ([], []), ([], []), ([14], [14]), ([13, 15, 12], [13, 15]), ([12, 16], [12, 16]), ([8, 17], [8, 17]), ([18, 16], [18]), ([19], [19]), ([19], [19]), ([20, 19, 0, 1, 2, 3, 4, 5, 6, 7, 8, 9, 10, 11, 12, 13, 14, 15, 16, 17, 18, 19, 20, 21], [20]), ([21, 22, 0, 1, 2, 3, 4, 5, 6, 7, 8, 9, 10, 11, 12, 13, 14, 15, 16, 17, 18, 19, 20, 21, 22], [21])])
def impl_SpanDiv.B6 : List Nat := [0, 0, 2, 7, 0, 0, 32, 127, 255, 0, 0, 1024, 3839, 0, 0, 16384, 65279, 130815, 262143, 524287, 1048575, 1048575, 4194303, 8388607]
theorem impl_SpanDiv.tab6 : rtab .any (opsOf Try.f65 6) = impl_SpanDiv.T6 := by kernel_rfl
theorem impl_SpanDiv.bits6 : waitsOk impl_SpanDiv.T6.2 impl_SpanDiv.B6 = true := by kernel_rfl
set_option maxHeartbeats 8000000 in
set_option maxRecDepth 100000 in
theorem impl_SpanDiv.calls (k : Nat) (a0_0 : Int) (a0_1 : Int) (a1_0 : Int) (a1_1 : Int) (r1 : Int) (r2 : Int) (r3 : Bool) (w : World) (h : impl_SpanDiv.f k a0_0 a0_1 a1_0 a1_1 = some (r1, r2, r3)) :
  Calls Try.prog 65 #[.agg #[.int .i64 a0_0, .int .i64 a0_1], .agg #[.int .i64 a1_0, .int .i64 a1_1]] w fun e w' => e = .returned (.tuple #[.agg #[.int .i64 r1, .int .i64 r2], .bool r3]) ∧ Below w.heap.size w w' := by
 have hu31 := Try.underlying31
 have HB := Aside0.mk (Below.refl w.heap.size w)
 have H := h
 clear h
 unfold impl_SpanDiv.f at H
 have HC3 := Aside0.mk H
 clear H
 go_enter Try.func65, Try.ntmps65
 go_upto_region 1 with (first | ((with_reducible refine gate_dst (N := 2) rfl ?_); refine bE 2 #[.int .i64 a0_0, .int .i64 a0_1] 31 ?_; intro gb426 hg w4 hbox hb; have BK426 := Aside0.mk (hbox); have GE426 := gw hg (hz0 HB); replace HB := hbb (hz0 HB) hb; clear hb hbox hg) | ((with_reducible refine gate_dst (N := 3) rfl ?_); refine bE 3 #[.int .i64 a1_0, .int .i64 a1_1] 31 ?_; intro gb427 hg w5 hbox hb; have BK427 := Aside0.mk (hbox); have GE427 := gw hg (hzs HB); have NB426_427 := nl hg (bk BK426); have NB427_426 := ng hg (bk BK426); replace BK426 := bb (bk BK426) hb; replace HB := hbb (hzs HB) hb; clear hb hbox hg) | ((with_reducible refine gate_dst (N := 4) rfl ?_); refine bE 4 #[.int .i64 0, .int .i64 0] 31 ?_; intro gb428 hg w6 hbox hb; have BK428 := Aside0.mk (hbox); have GE428 := gw hg (hzs HB); have NB426_428 := nl hg (bk BK426); have NB428_426 := ng hg (bk BK426); have NB427_428 := nl hg (bk BK427); have NB428_427 := ng hg (bk BK427); replace BK426 := bb (bk BK426) hb; replace BK427 := bb (bk BK427) hb; replace HB := hbb (hzs HB) hb; clear hb hbox hg))
 (try simp only [Act.put, List.setIfInBounds_toArray, List.set_cons_zero, List.set_cons_succ])
 go_cut [22] (fun v22 wc => ∃ (kq : Nat) (x22_2 : Bool), v22 = .bool x22_2 ∧ Aside0 (impl_SpanDiv.j0 kq x22_2 a0_0 a0_1 a1_0 a1_1 = some (r1, r2, r3)) ∧ Aside0 (kq ≤ k) ∧ Aside0 (wc.heap[gb426]? = some (.cells #[.int .i64 a0_0, .int .i64 a0_1] 31 (0, 0))) ∧ Aside0 (wc.heap[gb427]? = some (.cells #[.int .i64 a1_0, .int .i64 a1_1] 31 (0, 0))) ∧ Aside0 (wc.heap[gb428]? = some (.cells #[.int .i64 0, .int .i64 0] 31 (0, 0))) ∧ Aside0 (Below w.heap.size w wc))
 case first =>
  have H := HC3.out
  clear HC3
  replace H := Option.bind_eq_some_iff.mp H
  obtain ⟨t429, A70, H⟩ := H
  try dsimp only at H
  have A7 := Aside0.mk A70
  clear A70
  by_cases c8 : t429 = true
  ·subst c8
   rw [if_pos rfl] at H
   replace H := Option.bind_eq_some_iff.mp H
   obtain ⟨t430, A90, H⟩ := H
   try dsimp only at H
   have A9 := Aside0.mk A90
   clear A90
   by_cases c10 : t430 = true
   ·subst c10
    rw [if_pos rfl] at H
    replace H := Option.bind_eq_some_iff.mp H
    obtain ⟨t431, A110, H⟩ := H
    try dsimp only at H
    have A11 := Aside0.mk A110
    clear A110
    have H' := Aside0.mk H
    clear H
    have hnb12 := NB426_427.out
    have hnc12 := NB427_426.out
    have hnb13 := NB426_428.out
    have hnc13 := NB428_426.out
    obtain ⟨hcz14_0, hcz14_1, hfz14_0, hfz14_1⟩ := cz2 BK426
    go_wp2_with (first | ((with_reducible refine gate_callee (f := 35) rfl ?_); refine gL 9 Try.func35 #[.agg #[.int .i64 a0_0, .int .i64 a0_1]] ?_; (with_reducible refine (impl_SpanOk.calls a0_0 a0_1 true _ A7.out).mono ?_); rintro e w15 ⟨rfl, hb⟩; refine ⟨_, rfl, ?_⟩; replace BK426 := bb (bk BK426) hb; replace BK427 := bb (bk BK427) hb; replace BK428 := bb (bk BK428) hb; replace HB := hbb (hzs HB) hb; clear hb; have hnb16 := NB427_428.out; have hnc16 := NB428_427.out; obtain ⟨hcz17_0, hcz17_1, hfz17_0, hfz17_1⟩ := cz2 BK427) | (go_at_call 35; (with_reducible refine (impl_SpanOk.calls a1_0 a1_1 true _ A9.out).mono ?_); rintro e w18 ⟨rfl, hb⟩; replace BK426 := bb (bk BK426) hb; replace BK427 := bb (bk BK427) hb; replace BK428 := bb (bk BK428) hb; replace HB := hbb (hzs HB) hb; clear hb; obtain ⟨hcz19_0, hcz19_1, hfz19_0, hfz19_1⟩ := cz2 BK427) | (go_at_call 42; (with_reducible refine (impl_in.calls 0 a1_0 a1_1 t431 _ A11.out).mono ?_); rintro e w' ⟨rfl, ⟨nd, rfl⟩⟩))
    go_meet
    case rel => exact ⟨_, (t431), (by first | rfl | (simp; done) | (simp [*]; done)), H', ⟨by first | omega | exact Nat.le_refl _⟩, ⟨bk BK426⟩, ⟨bk BK427⟩, ⟨bk BK428⟩, ⟨hzs HB⟩⟩
   ·replace c10 := Bool.eq_false_iff.mpr c10
    subst c10
    rw [if_neg (show ¬ (false = true) by decide)] at H
    have H' := Aside0.mk H
    clear H
    have hnb20 := NB426_427.out
    have hnc20 := NB427_426.out
    have hnb21 := NB426_428.out
    have hnc21 := NB428_426.out
    obtain ⟨hcz22_0, hcz22_1, hfz22_0, hfz22_1⟩ := cz2 BK426
    go_wp2_with (first | ((with_reducible refine gate_callee (f := 35) rfl ?_); refine gL 9 Try.func35 #[.agg #[.int .i64 a0_0, .int .i64 a0_1]] ?_; (with_reducible refine (impl_SpanOk.calls a0_0 a0_1 true _ A7.out).mono ?_); rintro e w23 ⟨rfl, hb⟩; refine ⟨_, rfl, ?_⟩; replace BK426 := bb (bk BK426) hb; replace BK427 := bb (bk BK427) hb; replace BK428 := bb (bk BK428) hb; replace HB := hbb (hzs HB) hb; clear hb; have hnb24 := NB427_428.out; have hnc24 := NB428_427.out; obtain ⟨hcz25_0, hcz25_1, hfz25_0, hfz25_1⟩ := cz2 BK427) | (go_at_call 35; (with_reducible refine (impl_SpanOk.calls a1_0 a1_1 false _ A9.out).mono ?_); rintro e w26 ⟨rfl, hb⟩; replace BK426 := bb (bk BK426) hb; replace BK427 := bb (bk BK427) hb; replace BK428 := bb (bk BK428) hb; replace HB := hbb (hzs HB) hb; clear hb))
    go_meet
    case rel => exact ⟨_, (true), (by first | rfl | (simp; done) | (simp [*]; done)), H', ⟨by first | omega | exact Nat.le_refl _⟩, ⟨bk BK426⟩, ⟨bk BK427⟩, ⟨bk BK428⟩, ⟨hzs HB⟩⟩
  ·replace c8 := Bool.eq_false_iff.mpr c8
   subst c8
   rw [if_neg (show ¬ (false = true) by decide)] at H
   have H' := Aside0.mk H
   clear H
   have hnb27 := NB426_427.out
   have hnc27 := NB427_426.out
   have hnb28 := NB426_428.out
   have hnc28 := NB428_426.out
   obtain ⟨hcz29_0, hcz29_1, hfz29_0, hfz29_1⟩ := cz2 BK426
   go_wp2_with (first | ((with_reducible refine gate_callee (f := 35) rfl ?_); refine gL 9 Try.func35 #[.agg #[.int .i64 a0_0, .int .i64 a0_1]] ?_; (with_reducible refine (impl_SpanOk.calls a0_0 a0_1 false _ A7.out).mono ?_); rintro e w30 ⟨rfl, hb⟩; refine ⟨_, rfl, ?_⟩; replace BK426 := bb (bk BK426) hb; replace BK427 := bb (bk BK427) hb; replace BK428 := bb (bk BK428) hb; replace HB := hbb (hzs HB) hb; clear hb))
   go_meet
   case rel => exact ⟨_, (true), (by first | rfl | (simp; done) | (simp [*]; done)), H', ⟨by first | omega | exact Nat.le_refl _⟩, ⟨bk BK426⟩, ⟨bk BK427⟩, ⟨bk BK428⟩, ⟨hzs HB⟩⟩
 case rest =>
  clear HC3
  try clear c1
  try clear c2
  try clear p2
  try clear c3
  try clear c6
  try clear c8
  try clear c10
  try clear c12
  try clear c13
  try clear c16
  try clear c20
  try clear c21
  try clear c24
  try clear c27
  try clear c28
  try clear hcz14_0 hcz14_1
  try clear hcz17_0 hcz17_1
  try clear hcz19_0 hcz19_1
  try clear hcz22_0 hcz22_1
  try clear hcz25_0 hcz25_1
  try clear hcz29_0 hcz29_1
  try clear hfz14_0 hfz14_1
  try clear hfz17_0 hfz17_1
  try clear hfz19_0 hfz19_1
  try clear hfz22_0 hfz22_1
  try clear hfz25_0 hfz25_1
  try clear hfz29_0 hfz29_1
  obtain ⟨kq, x22_2, rfl, HA, HJ2, BK426, BK427, BK428, HB⟩ := hcut
  cases kq with
  | zero => exact absurd HA.out (by simp [impl_SpanDiv.j0])
  | succ kj2 =>
   have H := HA.out
   clear HA
   simp only [impl_SpanDiv.j0] at H
   by_cases c31 : x22_2 = true
   ·subst c31
    rw [if_pos rfl] at H
    simp only [Option.some.injEq, Prod.mk.injEq] at H
    obtain ⟨rfl, rfl, rfl⟩ := H
    have hnb32 := NB428_426.out
    have hnc32 := NB426_428.out
    have hnb33 := NB428_427.out
    have hnc33 := NB427_428.out
    obtain ⟨hcz34_0, hcz34_1, hfz34_0, hfz34_1⟩ := cz2 BK428
    go_wp2
    refine bodyPost_ret (results_ct rfl _ _ gb428 31 #[.int .i64 0, .int .i64 0] (0, 0) _ rfl (bkp BK428) Try.underlying31 rfl (by kernel_rfl)) rfl ?_
    exact ⟨by first | rfl | (simp [errW_none, errW_some] <;> rfl) | (simp [*, errW_none, errW_some] <;> rfl), hzs HB⟩
   ·replace c31 := Bool.eq_false_iff.mpr c31
    subst c31
    rw [if_neg (show ¬ (false = true) by decide)] at H
    have HC35 := Aside0.mk H
    clear H
    have hnb36 := NB427_426.out
    have hnc36 := NB426_427.out
    have hnb37 := NB427_428.out
    have hnc37 := NB428_427.out
    obtain ⟨hcz38_0, hcz38_1, hfz38_0, hfz38_1⟩ := cz2 BK427
    go_upto_if 26 with (fail)
    go_cut [] (fun wc => ∃ (kq : Nat) (x427000_34 : Int) (x427001_34 : Int) (x428000_34 : Int) (x428001_34 : Int), Aside0 (impl_SpanDiv.j1 kq x427000_34 x427001_34 x428000_34 x428001_34 = some (r1, r2, r3)) ∧ Aside0 (kq ≤ kj2) ∧ Aside0 (wc.heap[gb426]? = some (.cells #[.int .i64 x427000_34, .int .i64 x427001_34] 31 (0, 0))) ∧ Aside0 (wc.heap[gb427]? = some (.cells #[.int .i64 x428000_34, .int .i64 x428001_34] 31 (0, 0))) ∧ Aside0 (wc.heap[gb428]? = some (.cells #[.int .i64 0, .int .i64 0] 31 (0, 0))) ∧ Aside0 (Below w.heap.size w wc))
    case first =>
     have H := HC35.out
     clear HC35
     by_cases c39 : a1_1 < 0
     ·rw [if_pos c39] at H
      have c39b0 : decide (a1_1 < 0) = true := decide_eq_true c39
      clear c39
      (first | rw [c39b0] | (simp only [i64_w, i32_w]; rw [c39b0]) | skip)
      replace H := Option.bind_eq_some_iff.mp H
      obtain ⟨⟨t432, t433⟩, A400, H⟩ := H
      try dsimp only at H
      have A40 := Aside0.mk A400
      clear A400
      replace H := Option.bind_eq_some_iff.mp H
      obtain ⟨⟨t434, t435⟩, A410, H⟩ := H
      try dsimp only at H
      have A41 := Aside0.mk A410
      clear A410
      have H' := Aside0.mk H
      clear H
      try go_wp2
      replace BK426 := Aside0.mk (blk_drew BK426.out)
      replace BK427 := Aside0.mk (blk_drew BK427.out)
      replace BK428 := Aside0.mk (blk_drew BK428.out)
      replace HB := Aside0.mk (below_drew1 HB.out)
      refine start_ (n := 6) (S := fun w' => w'.cell? ⟨gb426, 0, none⟩ = some (.int .i64 a0_0) ∧ w'.cell? ⟨gb426, 1, none⟩ = some (.int .i64 a0_1) ∧ w'.cell? ⟨gb427, 0, none⟩ = some (.int .i64 a1_0) ∧ w'.cell? ⟨gb427, 1, none⟩ = some (.int .i64 a1_1)) (ds := [4, 5]) #[false, false, false, false, false, false] (by kernel_rfl) rfl rfl ⟨cw0 BK426, cw1 BK426, cw0 BK427, cw1 BK427⟩ (fun hHeld => ?_)
      generalize wc.drew = w42 at BK426 BK427 BK428 HB hHeld ⊢
      refine take_ (i := 0) (N := some 27) (v := ?_) (a' := ?_) #[true, false, false, false, false, false] rfl rfl (by kernel_rfl) (fun _ _ _ h => h) (Or.inl ⟨by rfl, ?_⟩) hHeld ?_ ?_
      rotate_left
      ·rintro w' ⟨s0, s1, s2, s3⟩
       go_simp
       with_reducible rfl
      rotate_left
      ·simp only [Act.put, List.setIfInBounds_toArray, List.set_cons_zero, List.set_cons_succ, i64_w, i32_w]
       rfl
      refine take_ (i := 2) (N := some 29) (v := ?_) (a' := ?_) #[true, false, true, false, false, false] rfl rfl (by kernel_rfl) (fun _ _ _ h => h) (Or.inl ⟨by rfl, ?_⟩) hHeld ?_ ?_
      rotate_left
      ·rintro w' ⟨s0, s1, s2, s3⟩
       go_simp
       with_reducible rfl
      rotate_left
      ·simp only [Act.put, List.setIfInBounds_toArray, List.set_cons_zero, List.set_cons_succ, i64_w, i32_w]
       rfl
      refine one_ (i := 1) (N := some 28) #[true, true, true, false, false, false] rfl rfl (by kernel_rfl) (by decide) (fun K hK => ?_)
      refine gS Try.func34 #[.agg #[.int .i64 a0_0, .int .i64 a0_1]] ?_
      with_reducible refine (impl_SpanNeg.calls a0_0 a0_1 t432 t433 _ A40.out).mono ?_
      rintro e w43 ⟨rfl, hb⟩
      refine ⟨_, rfl, ?_⟩
      replace BK426 := bb (bk BK426) hb
      replace BK427 := bb (bk BK427) hb
      replace BK428 := bb (bk BK428) hb
      replace HB := hbb (hzs HB) hb
      clear hb
      refine hK.out _ _ ⟨cw0 BK426, cw1 BK426, cw0 BK427, cw1 BK427⟩ (fun hHeld => ?_)
      clear hK K
      refine nP ?_
      refine one_ (i := 3) (N := some 30) #[true, true, true, true, false, false] rfl rfl (by kernel_rfl) (by decide) (fun K hK => ?_)
      refine gS Try.func34 #[.agg #[.int .i64 a1_0, .int .i64 a1_1]] ?_
      with_reducible refine (impl_SpanNeg.calls a1_0 a1_1 t434 t435 _ A41.out).mono ?_
      rintro e w44 ⟨rfl, hb⟩
      refine ⟨_, rfl, ?_⟩
      replace BK426 := bb (bk BK426) hb
      replace BK427 := bb (bk BK427) hb
      replace BK428 := bb (bk BK428) hb
      replace HB := hbb (hzs HB) hb
      clear hb
      refine hK.out _ _ ⟨cw0 BK426, cw1 BK426, cw0 BK427, cw1 BK427⟩ (fun hHeld => ?_)
      clear hK K
      refine nP ?_
      refine last_ (i := 4) (N := none) #[true, true, true, true, true, false] rfl rfl (by kernel_rfl) (by decide) (fun K hK => ?_)
      have hs45 : w44.cell? ⟨gb426, 0, none⟩ = some (.int .i64 a0_0) := (blk_cell BK426.out 0).trans rfl
      have hfs45 := blk_frozen BK426.out 0
      have hns45_1 := NB427_426.out
      have hns45_2 := NB428_426.out
      have hms45_1 := NB426_427.out
      have hms45_2 := NB426_428.out
      have hs46 : w44.cell? ⟨gb426, 1, none⟩ = some (.int .i64 a0_1) := (blk_cell BK426.out 1).trans rfl
      have hfs46 := blk_frozen BK426.out 1
      have hns46_1 := NB427_426.out
      have hns46_2 := NB428_426.out
      have hms46_1 := NB426_427.out
      have hms46_2 := NB426_428.out
      refine skip_ (w1 := ?_) (by rfl) rfl ?_ ?_
      rotate_left
      ·go_simp
       rfl
      refine hK.out _ _ ?_
      clear hK K
      refine last_ (i := 5) (N := none) #[true, true, true, true, true, true] rfl rfl (by kernel_rfl) (by decide) (fun K hK => ?_)
      have hs47 : w44.cell? ⟨gb427, 0, none⟩ = some (.int .i64 a1_0) := (blk_cell BK427.out 0).trans rfl
      have hfs47 := blk_frozen BK427.out 0
      have hns47_0 := NB426_427.out
      have hns47_2 := NB428_427.out
      have hms47_0 := NB427_426.out
      have hms47_2 := NB427_428.out
      have hs48 : w44.cell? ⟨gb427, 1, none⟩ = some (.int .i64 a1_1) := (blk_cell BK427.out 1).trans rfl
      have hfs48 := blk_frozen BK427.out 1
      have hns48_0 := NB426_427.out
      have hns48_2 := NB428_427.out
      have hms48_0 := NB427_426.out
      have hms48_2 := NB427_428.out
      refine skip_ (w1 := ?_) (by rfl) rfl ?_ ?_
      rotate_left
      ·go_simp
       rfl
      refine hK.out _ _ ?_
      clear hK K
      refine done_ (by kernel_rfl) ?_
      try go_wp2
      go_meet
      case rel => exact ⟨_, (t432), (t433), (t434), (t435), H', ⟨by have := HJ2.out; first | omega | exact Nat.le_refl _⟩, ⟨bkp BK426⟩, ⟨bkp BK427⟩, ⟨bk2 BK428 NB428_427 NB428_426⟩, ⟨hzs HB⟩⟩
     ·rw [if_neg c39] at H
      have c39b0 : decide (a1_1 < 0) = false := decide_eq_false c39
      clear c39
      (first | rw [c39b0] | (simp only [i64_w, i32_w]; rw [c39b0]) | skip)
      have H' := Aside0.mk H
      clear H
      go_wp2
      go_meet
      case rel => exact ⟨_, (a0_0), (a0_1), (a1_0), (a1_1), H', ⟨by have := HJ2.out; first | omega | exact Nat.le_refl _⟩, ⟨bk BK426⟩, ⟨bk BK427⟩, ⟨bk BK428⟩, ⟨hzs HB⟩⟩
    case rest =>
     clear HC35
     try clear c1
     try clear c2
     try clear p2
     try clear c3
     try clear c6
     try clear c8
     try clear c10
     try clear c12
     try clear c13
     try clear c16
     try clear c20
     try clear c21
     try clear c24
     try clear c27
     try clear c28
     try clear c31
     try clear c32
     try clear c33
     try clear c34
     try clear c35
     try clear c36
     try clear c37
     try clear c39
     try clear c39b0
     try clear hcz14_0 hcz14_1
     try clear hcz17_0 hcz17_1
     try clear hcz19_0 hcz19_1
     try clear hcz22_0 hcz22_1
     try clear hcz25_0 hcz25_1
     try clear hcz29_0 hcz29_1
     try clear hcz34_0 hcz34_1
     try clear hcz38_0 hcz38_1
     try clear hfz14_0 hfz14_1
     try clear hfz17_0 hfz17_1
     try clear hfz19_0 hfz19_1
     try clear hfz22_0 hfz22_1
     try clear hfz25_0 hfz25_1
     try clear hfz29_0 hfz29_1
     try clear hfz34_0 hfz34_1
     try clear hfz38_0 hfz38_1
     try clear p2
     obtain ⟨kq, x427000_34, x427001_34, x428000_34, x428001_34, HA, HJ34, BK426, BK427, BK428, HB⟩ := hcut
     cases kq with
     | zero => exact absurd HA.out (by simp [impl_SpanDiv.j1])
     | succ kj34 =>
      have H := HA.out
      clear HA
      simp only [impl_SpanDiv.j1] at H
      replace H := Option.bind_eq_some_iff.mp H
      obtain ⟨t436, A490, H⟩ := H
      try dsimp only at H
      have A49 := Aside0.mk A490
      clear A490
      replace H := Option.bind_eq_some_iff.mp H
      obtain ⟨t437, A500, H⟩ := H
      try dsimp only at H
      have A50 := Aside0.mk A500
      clear A500
      obtain ⟨ji51, hji51⟩ : ∃ j_ : Int, (mn t436 t437) = j_ := ⟨_, rfl⟩
      first | rw [hji51] at H | simp only [hji51] at H
      (try rw [hji51] at A49)
      (try rw [hji51] at A50)
      have hji51_ : (if t437 < t436 then t437 else t436) = ji51 := hji51
      replace H := Option.bind_eq_some_iff.mp H
      obtain ⟨t438, A520, H⟩ := H
      try dsimp only at H
      have A52 := Aside0.mk A520
      clear A520
      replace H := Option.bind_eq_some_iff.mp H
      obtain ⟨t439, A530, H⟩ := H
      try dsimp only at H
      have A53 := Aside0.mk A530
      clear A530
      obtain ⟨ji54, hji54⟩ : ∃ j_ : Int, (mx t438 t439) = j_ := ⟨_, rfl⟩
      first | rw [hji54] at H | simp only [hji54] at H
      (try rw [hji54] at A49)
      (try rw [hji54] at A50)
      (try rw [hji54] at A52)
      (try rw [hji54] at A53)
      have hji54_ : (if t438 < t439 then t439 else t438) = ji54 := hji54
      replace H := Option.bind_eq_some_iff.mp H
      obtain ⟨⟨t440, t441, t442⟩, A550, H⟩ := H
      try dsimp only at H
      have A55 := Aside0.mk A550
      clear A550
      simp only [Option.some.injEq, Prod.mk.injEq] at H
      obtain ⟨rfl, rfl, rfl⟩ := H
      try go_wp2
      replace BK426 := Aside0.mk (blk_drew BK426.out)
      replace BK427 := Aside0.mk (blk_drew BK427.out)
      replace BK428 := Aside0.mk (blk_drew BK428.out)
      replace HB := Aside0.mk (below_drew1 HB.out)
      refine start_ (n := 8) (S := fun w' => w'.cell? ⟨gb426, 0, none⟩ = some (.int .i64 x427000_34) ∧ w'.cell? ⟨gb426, 1, none⟩ = some (.int .i64 x427001_34)) (ds := []) #[false, false, false, false, false, false, false, false] (by kernel_rfl) rfl rfl ⟨cw0 BK426, cw1 BK426⟩ (fun hHeld => ?_); refine with_tabW impl_SpanDiv.tab5 impl_SpanDiv.bits5 (fun HT_ HW_ => ?_)
      generalize wc.drew = w56 at BK426 BK427 BK428 HB hHeld ⊢
      refine pU 0 31 #[true, false, false, false, false, false, false, false] HT_ ?_
      refine pU 3 34 #[true, false, false, true, false, false, false, false] HT_ ?_
      refine take_ (i := 1) (N := some 32) (v := ?_) (a' := ?_) #[true, true, false, true, false, false, false, false] rfl rfl (take_ofW HT_.out HW_.out (by kernel_rfl)) (fun _ _ _ h => h) (Or.inl ⟨by rfl, ?_⟩) hHeld ?_ ?_
      rotate_left
      ·rintro w' ⟨s0, s1⟩
       go_simp
       with_reducible rfl
      rotate_left
      ·simp only [Act.put, List.setIfInBounds_toArray, List.set_cons_zero, List.set_cons_succ, i64_w, i32_w]
       rfl
      refine pU 2 33 #[true, true, true, true, false, false, false, false] HT_ ?_
      refine pU 6 6 #[true, true, true, true, false, false, true, false] HT_ ?_
      refine take_ (i := 4) (N := some 35) (v := ?_) (a' := ?_) #[true, true, true, true, true, false, true, false] rfl rfl (take_ofW HT_.out HW_.out (by kernel_rfl)) (fun _ _ _ h => h) (Or.inl ⟨by rfl, ?_⟩) hHeld ?_ ?_
      rotate_left
      ·rintro w' ⟨s0, s1⟩
       go_simp
       with_reducible rfl
      rotate_left
      ·simp only [Act.put, List.setIfInBounds_toArray, List.set_cons_zero, List.set_cons_succ, i64_w, i32_w]
       rfl
      refine pU 5 36 #[true, true, true, true, true, true, true, false] HT_ ?_
      refine pU 7 7 #[true, true, true, true, true, true, true, true] HT_ ?_
      refine done_ (done_of HT_.out (by kernel_rfl)) ?_
      try go_wp2
      replace BK426 := Aside0.mk (blk_drew BK426.out)
      replace BK427 := Aside0.mk (blk_drew BK427.out)
      replace BK428 := Aside0.mk (blk_drew BK428.out)
      replace HB := Aside0.mk (below_drew1 HB.out)
      refine start_ (n := 24) (S := fun w' => w'.cell? ⟨gb427, 0, none⟩ = some (.int .i64 x428000_34) ∧ w'.cell? ⟨gb427, 1, none⟩ = some (.int .i64 x428001_34)) (ds := []) #[false, false, false, false, false, false, false, false, false, false, false, false, false, false, false, false, false, false, false, false, false, false, false, false] (by kernel_rfl) rfl rfl ⟨cw0 BK427, cw1 BK427⟩ (fun hHeld => ?_); refine with_tabW impl_SpanDiv.tab6 impl_SpanDiv.bits6 (fun HT_ HW_ => ?_)
      generalize w56.drew = w57 at BK426 BK427 BK428 HB hHeld ⊢
      refine pU 0 37 #[true, false, false, false, false, false, false, false, false, false, false, false, false, false, false, false, false, false, false, false, false, false, false, false] HT_ ?_
      refine pU 1 38 #[true, true, false, false, false, false, false, false, false, false, false, false, false, false, false, false, false, false, false, false, false, false, false, false] HT_ ?_
      refine pU 4 41 #[true, true, false, false, true, false, false, false, false, false, false, false, false, false, false, false, false, false, false, false, false, false, false, false] HT_ ?_
      refine pU 5 42 #[true, true, false, false, true, true, false, false, false, false, false, false, false, false, false, false, false, false, false, false, false, false, false, false] HT_ ?_
      refine pU 9 46 #[true, true, false, false, true, true, false, false, false, true, false, false, false, false, false, false, false, false, false, false, false, false, false, false] HT_ ?_
      refine pU 10 47 #[true, true, false, false, true, true, false, false, false, true, true, false, false, false, false, false, false, false, false, false, false, false, false, false] HT_ ?_
      refine pU 13 50 #[true, true, false, false, true, true, false, false, false, true, true, false, false, true, false, false, false, false, false, false, false, false, false, false] HT_ ?_
      refine pU 14 51 #[true, true, false, false, true, true, false, false, false, true, true, false, false, true, true, false, false, false, false, false, false, false, false, false] HT_ ?_
      refine take_ (i := 2) (N := some 39) (v := ?_) (a' := ?_) #[true, true, true, false, true, true, false, false, false, true, true, false, false, true, true, false, false, false, false, false, false, false, false, false] rfl rfl (take_ofW HT_.out HW_.out (by kernel_rfl)) (fun _ _ _ h => h) (Or.inl ⟨by rfl, ?_⟩) hHeld ?_ ?_
      rotate_left
      ·rintro w' ⟨s0, s1⟩
       go_simp
       with_reducible rfl
      rotate_left
      ·simp only [Act.put, List.setIfInBounds_toArray, List.set_cons_zero, List.set_cons_succ, i64_w, i32_w]
       rfl
      refine take_ (i := 6) (N := some 43) (v := ?_) (a' := ?_) #[true, true, true, false, true, true, true, false, false, true, true, false, false, true, true, false, false, false, false, false, false, false, false, false] rfl rfl (take_ofW HT_.out HW_.out (by kernel_rfl)) (fun _ _ _ h => h) (Or.inl ⟨by rfl, ?_⟩) hHeld ?_ ?_
      rotate_left
      ·rintro w' ⟨s0, s1⟩
       go_simp
       with_reducible rfl
      rotate_left
      ·simp only [Act.put, List.setIfInBounds_toArray, List.set_cons_zero, List.set_cons_succ, i64_w, i32_w]
       rfl
      refine take_ (i := 11) (N := some 48) (v := ?_) (a' := ?_) #[true, true, true, false, true, true, true, false, false, true, true, true, false, true, true, false, false, false, false, false, false, false, false, false] rfl rfl (take_ofW HT_.out HW_.out (by kernel_rfl)) (fun _ _ _ h => h) (Or.inl ⟨by rfl, ?_⟩) hHeld ?_ ?_
      rotate_left
      ·rintro w' ⟨s0, s1⟩
       go_simp
       with_reducible rfl
      rotate_left
      ·simp only [Act.put, List.setIfInBounds_toArray, List.set_cons_zero, List.set_cons_succ, i64_w, i32_w]
       rfl
      refine take_ (i := 15) (N := some 52) (v := ?_) (a' := ?_) #[true, true, true, false, true, true, true, false, false, true, true, true, false, true, true, true, false, false, false, false, false, false, false, false] rfl rfl (take_ofW HT_.out HW_.out (by kernel_rfl)) (fun _ _ _ h => h) (Or.inl ⟨by rfl, ?_⟩) hHeld ?_ ?_
      rotate_left
      ·rintro w' ⟨s0, s1⟩
       go_simp
       with_reducible rfl
      rotate_left
      ·simp only [Act.put, List.setIfInBounds_toArray, List.set_cons_zero, List.set_cons_succ, i64_w, i32_w]
       rfl
      refine oN 3 40 #[true, true, true, true, true, true, true, false, false, true, true, true, false, true, true, true, false, false, false, false, false, false, false, false] HT_ (fun K hK => ?_)
      refine gS Try.func72 #[.int .i64 (wrap64 (x427000_34 * 1000000000)), .int .i64 x428000_34] ?_
      with_reducible refine (impl_down.calls (wrap64 (x427000_34 * 1000000000)) x428000_34 t436 _ A49.out).mono ?_
      rintro e w' ⟨rfl, ⟨nd, rfl⟩⟩
      refine ⟨_, rfl, ?_⟩
      refine hK.out _ _ ⟨cw0 BK427, cw1 BK427⟩ (fun hHeld => ?_)
      clear hK K
      refine nP ?_
      refine oN 7 44 #[true, true, true, true, true, true, true, true, false, true, true, true, false, true, true, true, false, false, false, false, false, false, false, false] HT_ (fun K hK => ?_)
      refine gS Try.func72 #[.int .i64 (wrap64 (x427000_34 * 1000000000)), .int .i64 x428001_34] ?_
      with_reducible refine (impl_down.calls (wrap64 (x427000_34 * 1000000000)) x428001_34 t437 _ A50.out).mono ?_
      rintro e w' ⟨rfl, ⟨nd, rfl⟩⟩
      refine ⟨_, rfl, ?_⟩
      refine hK.out _ _ ⟨cw0 BK427, cw1 BK427⟩ (fun hHeld => ?_)
      clear hK K
      refine nP ?_
      refine pU 8 45 #[true, true, true, true, true, true, true, true, true, true, true, true, false, true, true, true, false, false, false, false, false, false, false, false] HT_ ?_
      refine oN 12 49 #[true, true, true, true, true, true, true, true, true, true, true, true, true, true, true, true, false, false, false, false, false, false, false, false] HT_ (fun K hK => ?_)
      refine gS Try.func73 #[.int .i64 (wrap64 (x427001_34 * 1000000000)), .int .i64 x428000_34] ?_
      with_reducible refine (impl_up.calls (wrap64 (x427001_34 * 1000000000)) x428000_34 t438 _ A52.out).mono ?_
      rintro e w' ⟨rfl, ⟨nd, rfl⟩⟩
      refine ⟨_, rfl, ?_⟩
      refine hK.out _ _ ⟨cw0 BK427, cw1 BK427⟩ (fun hHeld => ?_)
      clear hK K
      refine nP ?_
      refine oN 16 53 #[true, true, true, true, true, true, true, true, true, true, true, true, true, true, true, true, true, false, false, false, false, false, false, false] HT_ (fun K hK => ?_)
      refine gS Try.func73 #[.int .i64 (wrap64 (x427001_34 * 1000000000)), .int .i64 x428001_34] ?_
      with_reducible refine (impl_up.calls (wrap64 (x427001_34 * 1000000000)) x428001_34 t439 _ A53.out).mono ?_
      rintro e w' ⟨rfl, ⟨nd, rfl⟩⟩
      refine ⟨_, rfl, ?_⟩
      refine hK.out _ _ ⟨cw0 BK427, cw1 BK427⟩ (fun hHeld => ?_)
      clear hK K
      refine nP ?_
      refine pU 17 54 #[true, true, true, true, true, true, true, true, true, true, true, true, true, true, true, true, true, true, false, false, false, false, false, false] HT_ ?_
      refine pU 18 55 #[true, true, true, true, true, true, true, true, true, true, true, true, true, true, true, true, true, true, true, false, false, false, false, false] HT_ ?_
      refine oN 19 56 #[true, true, true, true, true, true, true, true, true, true, true, true, true, true, true, true, true, true, true, true, false, false, false, false] HT_ (fun K hK => ?_)
      refine gS Try.func86 #[.agg #[.int .i64 ji51, .int .i64 ji54]] (hargs := (by (try simp only [List.map_toArray, List.map_cons, List.map_nil]); first | done | (simp only [hji51, hji54]; rfl) | rfl | (simp only [List.length_drop, List.length_take]; rfl))) ?_
      with_reducible refine (impl_told.calls ji51 ji54 t440 t441 t442 _ A55.out).mono ?_
      rintro e w58 ⟨rfl, hb⟩
      refine ⟨_, rfl, ?_⟩
      replace BK426 := bb (bk BK426) hb
      replace BK427 := bb (bk BK427) hb
      replace BK428 := bb (bk BK428) hb
      replace HB := hbb (hzs HB) hb
      clear hb
      refine hK.out _ _ ⟨cw0 BK427, cw1 BK427⟩ (fun hHeld => ?_)
      clear hK K
      refine nP ?_
      refine pU 20 57 #[true, true, true, true, true, true, true, true, true, true, true, true, true, true, true, true, true, true, true, true, true, false, false, false] HT_ ?_
      refine pU 21 58 #[true, true, true, true, true, true, true, true, true, true, true, true, true, true, true, true, true, true, true, true, true, true, false, false] HT_ ?_
      refine one_ (i := 22) (N := none) #[true, true, true, true, true, true, true, true, true, true, true, true, true, true, true, true, true, true, true, true, true, true, true, false] rfl rfl (one_of HT_.out (by kernel_rfl)) (by decide) (fun K hK => ?_)
      have hs59 : w58.cell? ⟨gb428, 0, none⟩ = some (.int .i64 0) := (blk_cell BK428.out 0).trans rfl
      have hfs59 := blk_frozen BK428.out 0
      have hns59_0 := NB426_428.out
      have hns59_1 := NB427_428.out
      have hms59_0 := NB428_426.out
      have hms59_1 := NB428_427.out
      have hs60 : w58.cell? ⟨gb428, 1, none⟩ = some (.int .i64 0) := (blk_cell BK428.out 1).trans rfl
      have hfs60 := blk_frozen BK428.out 1
      have hns60_0 := NB426_428.out
      have hns60_1 := NB427_428.out
      have hms60_0 := NB428_426.out
      have hms60_1 := NB428_427.out
      refine skip_ (w1 := ?_) (by rfl) rfl ?_ ?_
      rotate_left
      ·go_simp
       rfl
      refine hK.out _ _ ⟨((cell_far (p := ⟨gb428, _, none⟩) NB427_428.out _).trans (((cell_far (p := ⟨gb428, _, none⟩) NB427_428.out _).trans (hHeld.1)))), ((cell_far (p := ⟨gb428, _, none⟩) NB427_428.out _).trans (((cell_far (p := ⟨gb428, _, none⟩) NB427_428.out _).trans (hHeld.2))))⟩ (fun hHeld => ?_)
      clear hK K
      refine pU 23 5 #[true, true, true, true, true, true, true, true, true, true, true, true, true, true, true, true, true, true, true, true, true, true, true, true] HT_ ?_
      refine done_ (done_of HT_.out (by kernel_rfl)) ?_
      try go_wp2
      refine bodyPost_ret (results_ct rfl _ _ gb428 31 #[.int .i64 t440, .int .i64 t441] (0, 0) _ rfl (bkp BK428) Try.underlying31 rfl (by kernel_rfl)) rfl ?_
      exact ⟨by first | rfl | (simp [errW_none, errW_some] <;> rfl) | (simp only [← hji51, ← hji54]; first | rfl | (simp [errW_none, errW_some] <;> rfl)) | (simp [*, errW_none, errW_some] <;> rfl), hzs HB⟩


/-! ### impl_SpanOf: function 59 -/
def impl_SpanOf.f (a0 : Int) (a1 : Int) : Option (Int × Int × Bool) := (impl_isNumber.f a0 a1).bind fun t344 => (if t344 = true then ((impl_down.f (wrap64 (a0 * 1000000000)) a1).bind fun t345 => ((impl_up.f (wrap64 (a0 * 1000000000)) a1).bind fun t346 => ((impl_told.f t345 t346).bind fun bt347 => (some (bt347.1, bt347.2.1, bt347.2.2))))) else (some (0, 0, false)))
set_option maxHeartbeats 8000000 in
set_option maxRecDepth 100000 in
theorem impl_SpanOf.calls (a0 : Int) (a1 : Int) (r1 : Int) (r2 : Int) (r3 : Bool) (w : World) (h : impl_SpanOf.f a0 a1 = some (r1, r2, r3)) :
  Calls Try.prog 59 #[.int .i64 a0, .int .i64 a1] w fun e w' => e = .returned (.tuple #[.agg #[.int .i64 r1, .int .i64 r2], .bool r3]) ∧ Below w.heap.size w w' := by
 have hu31 := Try.underlying31
 have HB := Aside0.mk (Below.refl w.heap.size w)
 have H := h
 clear h
 unfold impl_SpanOf.f at H
 replace H := Option.bind_eq_some_iff.mp H
 obtain ⟨t344, A30, H⟩ := H
 try dsimp only at H
 have A3 := Aside0.mk A30
 clear A30
 by_cases c4 : t344 = true
 ·subst c4
  rw [if_pos rfl] at H
  replace H := Option.bind_eq_some_iff.mp H
  obtain ⟨t345, A50, H⟩ := H
  try dsimp only at H
  have A5 := Aside0.mk A50
  clear A50
  replace H := Option.bind_eq_some_iff.mp H
  obtain ⟨t346, A60, H⟩ := H
  try dsimp only at H
  have A6 := Aside0.mk A60
  clear A60
  replace H := Option.bind_eq_some_iff.mp H
  obtain ⟨⟨t347, t348, t349⟩, A70, H⟩ := H
  try dsimp only at H
  have A7 := Aside0.mk A70
  clear A70
  simp only [Option.some.injEq, Prod.mk.injEq] at H
  obtain ⟨rfl, rfl, rfl⟩ := H
  go_enter Try.func59, Try.ntmps59
  go_wp2_with (first | ((with_reducible refine gate_dst (N := 4) rfl ?_); refine bE 4 #[.int .i64 0, .int .i64 0] 31 ?_; intro gb343 hg w8 hbox hb; have BK343 := Aside0.mk (hbox); have GE343 := gw hg (hz0 HB); have GW343 := GE343; replace HB := hbb (hz0 HB) hb; clear hb hbox hg) | ((with_reducible refine gate_callee (f := 51) rfl ?_); refine gL 8 Try.func51 #[.int .i64 a0, .int .i64 a1] ?_; (with_reducible refine (impl_isNumber.calls a0 a1 true _ A3.out).mono ?_); rintro e w' ⟨rfl, ⟨nd, rfl⟩⟩; refine ⟨_, rfl, ?_⟩; (try (rw [drewN_self w8]; generalize hq_ : World.drewN w8 _ = w8; have n0_ : Aside0 (w8.heap[gb343]? = some (.cells #[.int .i64 0, .int .i64 0] 31 (0, 0))) := ⟨by rw [← hq_]; exact (bk BK343)⟩; have n1_ : Aside0 (Below w.heap.size w w8) := ⟨by rw [← hq_]; exact (hzs HB)⟩; clear BK343 HB hq_; have BK343 := n0_; have HB := n1_; clear n0_ n1_))) | ((with_reducible refine gate_callee (f := 72) rfl ?_); refine gL 14 Try.func72 #[.int .i64 (wrap64 (a0 * 1000000000)), .int .i64 a1] ?_; (with_reducible refine (impl_down.calls (wrap64 (a0 * 1000000000)) a1 t345 _ A5.out).mono ?_); rintro e w' ⟨rfl, ⟨nd, rfl⟩⟩; refine ⟨_, rfl, ?_⟩; (try (rw [drewN_self w8]; generalize hq_ : World.drewN w8 _ = w8; have n0_ : Aside0 (w8.heap[gb343]? = some (.cells #[.int .i64 0, .int .i64 0] 31 (0, 0))) := ⟨by rw [← hq_]; exact (bk BK343)⟩; have n1_ : Aside0 (Below w.heap.size w w8) := ⟨by rw [← hq_]; exact (hzs HB)⟩; clear BK343 HB hq_; have BK343 := n0_; have HB := n1_; clear n0_ n1_))) | ((with_reducible refine gate_callee (f := 73) rfl ?_); refine gL 18 Try.func73 #[.int .i64 (wrap64 (a0 * 1000000000)), .int .i64 a1] ?_; (with_reducible refine (impl_up.calls (wrap64 (a0 * 1000000000)) a1 t346 _ A6.out).mono ?_); rintro e w' ⟨rfl, ⟨nd, rfl⟩⟩; refine ⟨_, rfl, ?_⟩; (try (rw [drewN_self w8]; generalize hq_ : World.drewN w8 _ = w8; have n0_ : Aside0 (w8.heap[gb343]? = some (.cells #[.int .i64 0, .int .i64 0] 31 (0, 0))) := ⟨by rw [← hq_]; exact (bk BK343)⟩; have n1_ : Aside0 (Below w.heap.size w w8) := ⟨by rw [← hq_]; exact (hzs HB)⟩; clear BK343 HB hq_; have BK343 := n0_; have HB := n1_; clear n0_ n1_))) | ((with_reducible refine gate_callee (f := 86) rfl ?_); refine gL 20 Try.func86 #[.agg #[.int .i64 t345, .int .i64 t346]] ?_; (with_reducible refine (impl_told.calls t345 t346 t347 t348 t349 _ A7.out).mono ?_); rintro e w9 ⟨rfl, hb⟩; refine ⟨_, rfl, ?_⟩; replace BK343 := bb (bk BK343) hb; replace HB := hbb (hzs HB) hb; clear hb; obtain ⟨hcz10_0, hcz10_1, hfz10_0, hfz10_1⟩ := cz2 BK343))
  refine bodyPost_ret (results_ct rfl _ _ gb343 31 #[.int .i64 t347, .int .i64 t348] (0, 0) _ rfl (bkp BK343) Try.underlying31 rfl (by kernel_rfl)) rfl ?_
  exact ⟨by first | rfl | (simp [errW_none, errW_some] <;> rfl) | (simp [*, errW_none, errW_some] <;> rfl), hzs HB⟩
 ·replace c4 := Bool.eq_false_iff.mpr c4
  subst c4
  rw [if_neg (show ¬ (false = true) by decide)] at H
  simp only [Option.some.injEq, Prod.mk.injEq] at H
  obtain ⟨rfl, rfl, rfl⟩ := H
  go_enter Try.func59, Try.ntmps59
  go_wp2_with (first | ((with_reducible refine gate_dst (N := 4) rfl ?_); refine bE 4 #[.int .i64 0, .int .i64 0] 31 ?_; intro gb343 hg w11 hbox hb; have BK343 := Aside0.mk (hbox); have GE343 := gw hg (hz0 HB); have GW343 := GE343; replace HB := hbb (hz0 HB) hb; clear hb hbox hg) | ((with_reducible refine gate_callee (f := 51) rfl ?_); refine gL 8 Try.func51 #[.int .i64 a0, .int .i64 a1] ?_; (with_reducible refine (impl_isNumber.calls a0 a1 false _ A3.out).mono ?_); rintro e w' ⟨rfl, ⟨nd, rfl⟩⟩; refine ⟨_, rfl, ?_⟩; (try (rw [drewN_self w11]; generalize hq_ : World.drewN w11 _ = w11; have n0_ : Aside0 (w11.heap[gb343]? = some (.cells #[.int .i64 0, .int .i64 0] 31 (0, 0))) := ⟨by rw [← hq_]; exact (bk BK343)⟩; have n1_ : Aside0 (Below w.heap.size w w11) := ⟨by rw [← hq_]; exact (hzs HB)⟩; clear BK343 HB hq_; have BK343 := n0_; have HB := n1_; clear n0_ n1_)); obtain ⟨hcz12_0, hcz12_1, hfz12_0, hfz12_1⟩ := cz2 BK343))
  refine bodyPost_ret (results_ct rfl _ _ gb343 31 #[.int .i64 0, .int .i64 0] (0, 0) _ rfl (bkp BK343) Try.underlying31 rfl (by kernel_rfl)) rfl ?_
  exact ⟨by first | rfl | (simp [errW_none, errW_some] <;> rfl) | (simp [*, errW_none, errW_some] <;> rfl), hzs HB⟩


end Go.Proofs.Ytlodpfddimeffaa.M
