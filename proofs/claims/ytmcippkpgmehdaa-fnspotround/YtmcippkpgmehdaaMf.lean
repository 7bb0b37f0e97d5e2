import Derived.Test.YtmcippkpgmehdaaM0
import Derived.Test.YtmcippkpgmehdaaMa
namespace Go.Proofs.Ytmcippkpgmehdaa.M
open Go.RowKit Go.Proofs.YtmcippkpgmehdaaW.PrintWords Go.Proofs.YtmcippkpgmehdaaW.PrintLast Go.Proofs.YtmcippkpgmehdaaW.PrintMore
attribute [local go_sem] max2_int min2_int max_two min_two max_three min_three max_four min_four
attribute [local go_sem high] eqA42 eqA29 eqA24
attribute [local go_sem] fld42_0 fld42_1 fld29_0 fld29_1 fld24_0 fld24_1 fld38_0 fld38_1 fld88_0 fld88_1 fld88_2 fld88_3 fld88_4
set_option linter.unusedVariables false
set_option linter.unusedSimpArgs false

/-! ### impl_told: function 73 -/
def impl_told.f (a0_0 : Int) (a0_1 : Int) : Option (Int × Int × Bool) := (impl_SpanOk.f a0_0 a0_1).bind fun t297 => (if t297 = true then (some (a0_0, a0_1, true)) else (some (0, 0, false)))
set_option maxHeartbeats 8000000 in
set_option maxRecDepth 100000 in
theorem impl_told.calls (a0_0 : Int) (a0_1 : Int) (r1 : Int) (r2 : Int) (r3 : Bool) (w : World) (h : impl_told.f a0_0 a0_1 = some (r1, r2, r3)) :
  Calls Try.prog 73 #[.agg #[.int .i64 a0_0, .int .i64 a0_1]] w fun e w' => e = .returned (.tuple #[.agg #[.int .i64 r1, .int .i64 r2], .bool r3]) ∧ Below w.heap.size w w' := by
 have hu42 := Try.underlying42
 have HB := Aside0.mk (Below.refl w.heap.size w)
 have H : ((impl_SpanOk.f a0_0 a0_1).bind fun t297 => (if t297 = true then (some (a0_0, a0_1, true)) else (some (0, 0, false)))) = some (r1, r2, r3) := h
 clear h
 replace H := Option.bind_eq_some_iff.mp H
 obtain ⟨t297, A20, H⟩ := H
 try dsimp only at H
 have A2 := Aside0.mk A20
 clear A20
 by_cases c3 : t297 = true
 ·subst c3
  have H1 : (some (a0_0, a0_1, true)) = some (r1, r2, r3) := by rw [if_pos rfl] at H; exact H
  clear H
  have H := H1
  clear H1
  simp only [Option.some.injEq, Prod.mk.injEq] at H
  obtain ⟨rfl, rfl, rfl⟩ := H
  go_enter Try.func73, Try.ntmps73
  go_wp2_with (first | ((with_reducible refine gate_dst (N := 1) rfl ?_); refine bE 1 #[.int .i64 a0_0, .int .i64 a0_1] 42 ?_; intro gb295 hg w4 hbox hb; have BK295 := Aside0.mk (hbox); have GE295 := gw hg (hz0 HB); have GW295 := GE295; replace HB := hbb (hz0 HB) hb; clear hb hbox hg) | ((with_reducible refine gate_dst (N := 2) rfl ?_); refine bE 2 #[.int .i64 0, .int .i64 0] 42 ?_; intro gb296 hg w5 hbox hb; have BK296 := Aside0.mk (hbox); have GE296 := gw hg (hzs HB); have GW296 := GE296; have NB295_296 := nl hg (bk BK295); have NB296_295 := ng hg (bk BK295); replace BK295 := bb (bk BK295) hb; replace HB := hbb (hzs HB) hb; clear hb hbox hg; have hnb6 := NB295_296.out; have hnc6 := NB296_295.out; obtain ⟨hcz7_0, hcz7_1, hfz7_0, hfz7_1⟩ := cz2 BK295) | ((with_reducible refine gate_callee (f := 72) rfl ?_); refine gL 5 Try.func72 #[.agg #[.int .i64 a0_0, .int .i64 a0_1]] ?_; (with_reducible refine (impl_SpanOk.calls a0_0 a0_1 true _ A2.out).mono ?_); rintro e w8 ⟨rfl, hb⟩; refine ⟨_, rfl, ?_⟩; replace BK295 := bb (bk BK295) hb; replace BK296 := bb (bk BK296) hb; replace HB := hbb (hzs HB) hb; clear hb; obtain ⟨hcz9_0, hcz9_1, hfz9_0, hfz9_1⟩ := cz2 BK295; obtain ⟨hcz10_0, hcz10_1, hfz10_0, hfz10_1⟩ := cz2 BK296))
  refine bodyPost_ret (results_ct rfl _ _ gb296 42 #[.int .i64 a0_0, .int .i64 a0_1] (0, 0) _ rfl (bkp BK296) Try.underlying42 rfl (by kernel_rfl)) rfl ?_
  exact ⟨by first | rfl | (simp [errW_none, errW_some] <;> rfl) | (simp [*, errW_none, errW_some] <;> rfl), hzs HB⟩
 ·replace c3 := Bool.eq_false_iff.mpr c3
  subst c3
  have H1 : (some (0, 0, false)) = some (r1, r2, r3) := by rw [if_neg (show ¬ (false = true) by decide)] at H; exact H
  clear H
  have H := H1
  clear H1
  simp only [Option.some.injEq, Prod.mk.injEq] at H
  obtain ⟨rfl, rfl, rfl⟩ := H
  go_enter Try.func73, Try.ntmps73
  go_wp2_with (first | ((with_reducible refine gate_dst (N := 1) rfl ?_); refine bE 1 #[.int .i64 a0_0, .int .i64 a0_1] 42 ?_; intro gb295 hg w11 hbox hb; have BK295 := Aside0.mk (hbox); have GE295 := gw hg (hz0 HB); have GW295 := GE295; replace HB := hbb (hz0 HB) hb; clear hb hbox hg) | ((with_reducible refine gate_dst (N := 2) rfl ?_); refine bE 2 #[.int .i64 0, .int .i64 0] 42 ?_; intro gb296 hg w12 hbox hb; have BK296 := Aside0.mk (hbox); have GE296 := gw hg (hzs HB); have GW296 := GE296; have NB295_296 := nl hg (bk BK295); have NB296_295 := ng hg (bk BK295); replace BK295 := bb (bk BK295) hb; replace HB := hbb (hzs HB) hb; clear hb hbox hg; have hnb13 := NB295_296.out; have hnc13 := NB296_295.out; obtain ⟨hcz14_0, hcz14_1, hfz14_0, hfz14_1⟩ := cz2 BK295) | ((with_reducible refine gate_callee (f := 72) rfl ?_); refine gL 5 Try.func72 #[.agg #[.int .i64 a0_0, .int .i64 a0_1]] ?_; (with_reducible refine (impl_SpanOk.calls a0_0 a0_1 false _ A2.out).mono ?_); rintro e w15 ⟨rfl, hb⟩; refine ⟨_, rfl, ?_⟩; replace BK295 := bb (bk BK295) hb; replace BK296 := bb (bk BK296) hb; replace HB := hbb (hzs HB) hb; clear hb; obtain ⟨hcz16_0, hcz16_1, hfz16_0, hfz16_1⟩ := cz2 BK296))
  refine bodyPost_ret (results_ct rfl _ _ gb296 42 #[.int .i64 0, .int .i64 0] (0, 0) _ rfl (bkp BK296) Try.underlying42 rfl (by kernel_rfl)) rfl ?_
  exact ⟨by first | rfl | (simp [errW_none, errW_some] <;> rfl) | (simp [*, errW_none, errW_some] <;> rfl), hzs HB⟩


/-! ### impl_SpanMul: function 77 -/
def impl_SpanMul.j0 : Nat → Bool → Int → Int → Int → Int → Option (Int × Int × Bool)
 | 0, _, _, _, _, _ => none
 | k + 1, x17, x299000, x299001, x300000, x300001 => if x17 = true then (some (0, 0, false)) else ((impl_down.f (mn (mn (mn (wrap64 (x299000 * x300000)) (wrap64 (x299000 * x300001))) (wrap64 (x299001 * x300000))) (wrap64 (x299001 * x300001))) 1000000000).bind fun t303 => ((impl_up.f (mx (mx (mx (wrap64 (x299000 * x300000)) (wrap64 (x299000 * x300001))) (wrap64 (x299001 * x300000))) (wrap64 (x299001 * x300001))) 1000000000).bind fun t304 => ((impl_told.f t303 t304).bind fun bt305 => (some (bt305.1, bt305.2.1, bt305.2.2)))))
def impl_SpanMul.f (k : Nat) (a0_0 : Int) (a0_1 : Int) (a1_0 : Int) (a1_1 : Int) : Option (Int × Int × Bool) := (impl_SpanOk.f a0_0 a0_1).bind fun t301 => (if t301 = true then ((impl_SpanOk.f a1_0 a1_1).bind fun t302 => (impl_SpanMul.j0 k (!t302) a0_0 a0_1 a1_0 a1_1)) else (impl_SpanMul.j0 k true a0_0 a0_1 a1_0 a1_1))
set_option maxHeartbeats 8000000 in
set_option maxRecDepth 100000 in
theorem impl_SpanMul.calls (k : Nat) (a0_0 : Int) (a0_1 : Int) (a1_0 : Int) (a1_1 : Int) (r1 : Int) (r2 : Int) (r3 : Bool) (w : World) (h : impl_SpanMul.f k a0_0 a0_1 a1_0 a1_1 = some (r1, r2, r3)) :
  Calls Try.prog 77 #[.agg #[.int .i64 a0_0, .int .i64 a0_1], .agg #[.int .i64 a1_0, .int .i64 a1_1]] w fun e w' => e = .returned (.tuple #[.agg #[.int .i64 r1, .int .i64 r2], .bool r3]) ∧ Below w.heap.size w w' := by
 have hu42 := Try.underlying42
 have HB := Aside0.mk (Below.refl w.heap.size w)
 have H : ((impl_SpanOk.f a0_0 a0_1).bind fun t301 => (if t301 = true then ((impl_SpanOk.f a1_0 a1_1).bind fun t302 => (impl_SpanMul.j0 k (!t302) a0_0 a0_1 a1_0 a1_1)) else (impl_SpanMul.j0 k true a0_0 a0_1 a1_0 a1_1))) = some (r1, r2, r3) := h
 clear h
 have HC3 := Aside0.mk H
 clear H
 go_enter Try.func77, Try.ntmps77
 go_upto_region 1 with (first | ((with_reducible refine gate_dst (N := 2) rfl ?_); refine bE 2 #[.int .i64 a0_0, .int .i64 a0_1] 42 ?_; intro gb298 hg w4 hbox hb; have BK298 := Aside0.mk (hbox); have GE298 := gw hg (hz0 HB); have GW298 := GE298; replace HB := hbb (hz0 HB) hb; clear hb hbox hg) | ((with_reducible refine gate_dst (N := 3) rfl ?_); refine bE 3 #[.int .i64 a1_0, .int .i64 a1_1] 42 ?_; intro gb299 hg w5 hbox hb; have BK299 := Aside0.mk (hbox); have GE299 := gw hg (hzs HB); have GW299 := GE299; have NB298_299 := nl hg (bk BK298); have NB299_298 := ng hg (bk BK298); replace BK298 := bb (bk BK298) hb; replace HB := hbb (hzs HB) hb; clear hb hbox hg) | ((with_reducible refine gate_dst (N := 4) rfl ?_); refine bE 4 #[.int .i64 0, .int .i64 0] 42 ?_; intro gb300 hg w6 hbox hb; have BK300 := Aside0.mk (hbox); have GE300 := gw hg (hzs HB); have GW300 := GE300; have NB298_300 := nl hg (bk BK298); have NB300_298 := ng hg (bk BK298); have NB299_300 := nl hg (bk BK299); have NB300_299 := ng hg (bk BK299); replace BK298 := bb (bk BK298) hb; replace BK299 := bb (bk BK299) hb; replace HB := hbb (hzs HB) hb; clear hb hbox hg))
 repeat (go_quiet (first | ((with_reducible refine gate_dst (N := 2) rfl ?_); refine bE 2 #[.int .i64 a0_0, .int .i64 a0_1] 42 ?_; intro gb298 hg w4 hbox hb; have BK298 := Aside0.mk (hbox); have GE298 := gw hg (hz0 HB); have GW298 := GE298; replace HB := hbb (hz0 HB) hb; clear hb hbox hg) | ((with_reducible refine gate_dst (N := 3) rfl ?_); refine bE 3 #[.int .i64 a1_0, .int .i64 a1_1] 42 ?_; intro gb299 hg w5 hbox hb; have BK299 := Aside0.mk (hbox); have GE299 := gw hg (hzs HB); have GW299 := GE299; have NB298_299 := nl hg (bk BK298); have NB299_298 := ng hg (bk BK298); replace BK298 := bb (bk BK298) hb; replace HB := hbb (hzs HB) hb; clear hb hbox hg) | ((with_reducible refine gate_dst (N := 4) rfl ?_); refine bE 4 #[.int .i64 0, .int .i64 0] 42 ?_; intro gb300 hg w6 hbox hb; have BK300 := Aside0.mk (hbox); have GE300 := gw hg (hzs HB); have GW300 := GE300; have NB298_300 := nl hg (bk BK298); have NB300_298 := ng hg (bk BK298); have NB299_300 := nl hg (bk BK299); have NB300_299 := ng hg (bk BK299); replace BK298 := bb (bk BK298) hb; replace BK299 := bb (bk BK299) hb; replace HB := hbb (hzs HB) hb; clear hb hbox hg)); go_upto_region 1 with (first | ((with_reducible refine gate_dst (N := 2) rfl ?_); refine bE 2 #[.int .i64 a0_0, .int .i64 a0_1] 42 ?_; intro gb298 hg w4 hbox hb; have BK298 := Aside0.mk (hbox); have GE298 := gw hg (hz0 HB); have GW298 := GE298; replace HB := hbb (hz0 HB) hb; clear hb hbox hg) | ((with_reducible refine gate_dst (N := 3) rfl ?_); refine bE 3 #[.int .i64 a1_0, .int .i64 a1_1] 42 ?_; intro gb299 hg w5 hbox hb; have BK299 := Aside0.mk (hbox); have GE299 := gw hg (hzs HB); have GW299 := GE299; have NB298_299 := nl hg (bk BK298); have NB299_298 := ng hg (bk BK298); replace BK298 := bb (bk BK298) hb; replace HB := hbb (hzs HB) hb; clear hb hbox hg) | ((with_reducible refine gate_dst (N := 4) rfl ?_); refine bE 4 #[.int .i64 0, .int .i64 0] 42 ?_; intro gb300 hg w6 hbox hb; have BK300 := Aside0.mk (hbox); have GE300 := gw hg (hzs HB); have GW300 := GE300; have NB298_300 := nl hg (bk BK298); have NB300_298 := ng hg (bk BK298); have NB299_300 := nl hg (bk BK299); have NB300_299 := ng hg (bk BK299); replace BK298 := bb (bk BK298) hb; replace BK299 := bb (bk BK299) hb; replace HB := hbb (hzs HB) hb; clear hb hbox hg)))
 (try simp only [Act.put, List.setIfInBounds_toArray, List.set_cons_zero, List.set_cons_succ])
 go_cut [17] (fun v17 wc => ∃ (kq : Nat) (x17_2 : Bool), v17 = .bool x17_2 ∧ Aside0 (impl_SpanMul.j0 kq x17_2 a0_0 a0_1 a1_0 a1_1 = some (r1, r2, r3)) ∧ Aside0 (kq ≤ k) ∧ Aside0 (wc.heap[gb298]? = some (.cells #[.int .i64 a0_0, .int .i64 a0_1] 42 (0, 0))) ∧ Aside0 (wc.heap[gb299]? = some (.cells #[.int .i64 a1_0, .int .i64 a1_1] 42 (0, 0))) ∧ Aside0 (wc.heap[gb300]? = some (.cells #[.int .i64 0, .int .i64 0] 42 (0, 0))) ∧ Aside0 (Below w.heap.size w wc))
 case first =>
  have H := HC3.out
  clear HC3
  replace H := Option.bind_eq_some_iff.mp H
  obtain ⟨t301, A70, H⟩ := H
  try dsimp only at H
  have A7 := Aside0.mk A70
  clear A70
  by_cases c8 : t301 = true
  ·subst c8
   have H1 : ((impl_SpanOk.f a1_0 a1_1).bind fun t302 => (impl_SpanMul.j0 k (!t302) a0_0 a0_1 a1_0 a1_1)) = some (r1, r2, r3) := by rw [if_pos rfl] at H; exact H
   clear H
   have H := H1
   clear H1
   replace H := Option.bind_eq_some_iff.mp H
   obtain ⟨t302, A90, H⟩ := H
   try dsimp only at H
   have A9 := Aside0.mk A90
   clear A90
   have H' := Aside0.mk H
   clear H
   have hnb10 := NB298_299.out
   have hnc10 := NB299_298.out
   have hnb11 := NB298_300.out
   have hnc11 := NB300_298.out
   obtain ⟨hcz12_0, hcz12_1, hfz12_0, hfz12_1⟩ := cz2 BK298
   go_wp2_with (first | (go_at_call 72; (with_reducible refine (impl_SpanOk.calls a0_0 a0_1 true _ A7.out).mono ?_); rintro e w13 ⟨rfl, hb⟩; replace BK298 := bb (bk BK298) hb; replace BK299 := bb (bk BK299) hb; replace BK300 := bb (bk BK300) hb; replace HB := hbb (hzs HB) hb; clear hb; have hnb14 := NB299_300.out; have hnc14 := NB300_299.out; obtain ⟨hcz15_0, hcz15_1, hfz15_0, hfz15_1⟩ := cz2 BK299) | (go_at_call 72; (with_reducible refine (impl_SpanOk.calls a1_0 a1_1 t302 _ A9.out).mono ?_); rintro e w16 ⟨rfl, hb⟩; replace BK298 := bb (bk BK298) hb; replace BK299 := bb (bk BK299) hb; replace BK300 := bb (bk BK300) hb; replace HB := hbb (hzs HB) hb; clear hb))
   repeat (go_quiet (first | (go_at_call 72; (with_reducible refine (impl_SpanOk.calls a0_0 a0_1 true _ A7.out).mono ?_); rintro e w13 ⟨rfl, hb⟩; replace BK298 := bb (bk BK298) hb; replace BK299 := bb (bk BK299) hb; replace BK300 := bb (bk BK300) hb; replace HB := hbb (hzs HB) hb; clear hb; have hnb14 := NB299_300.out; have hnc14 := NB300_299.out; obtain ⟨hcz15_0, hcz15_1, hfz15_0, hfz15_1⟩ := cz2 BK299) | (go_at_call 72; (with_reducible refine (impl_SpanOk.calls a1_0 a1_1 t302 _ A9.out).mono ?_); rintro e w16 ⟨rfl, hb⟩; replace BK298 := bb (bk BK298) hb; replace BK299 := bb (bk BK299) hb; replace BK300 := bb (bk BK300) hb; replace HB := hbb (hzs HB) hb; clear hb)); try go_wp2_with (first | (go_at_call 72; (with_reducible refine (impl_SpanOk.calls a0_0 a0_1 true _ A7.out).mono ?_); rintro e w13 ⟨rfl, hb⟩; replace BK298 := bb (bk BK298) hb; replace BK299 := bb (bk BK299) hb; replace BK300 := bb (bk BK300) hb; replace HB := hbb (hzs HB) hb; clear hb; have hnb14 := NB299_300.out; have hnc14 := NB300_299.out; obtain ⟨hcz15_0, hcz15_1, hfz15_0, hfz15_1⟩ := cz2 BK299) | (go_at_call 72; (with_reducible refine (impl_SpanOk.calls a1_0 a1_1 t302 _ A9.out).mono ?_); rintro e w16 ⟨rfl, hb⟩; replace BK298 := bb (bk BK298) hb; replace BK299 := bb (bk BK299) hb; replace BK300 := bb (bk BK300) hb; replace HB := hbb (hzs HB) hb; clear hb)))
   go_meet
   case rel => exact ⟨_, (!t302), (by first | rfl | (simp; done) | (simp [*]; done)), H', ⟨by first | omega | exact Nat.le_refl _⟩, ⟨bk BK298⟩, ⟨bk BK299⟩, ⟨bk BK300⟩, ⟨hzs HB⟩⟩
  ·replace c8 := Bool.eq_false_iff.mpr c8
   subst c8
   have H1 : (impl_SpanMul.j0 k true a0_0 a0_1 a1_0 a1_1) = some (r1, r2, r3) := by rw [if_neg (show ¬ (false = true) by decide)] at H; exact H
   clear H
   have H := H1
   clear H1
   have H' := Aside0.mk H
   clear H
   have hnb17 := NB298_299.out
   have hnc17 := NB299_298.out
   have hnb18 := NB298_300.out
   have hnc18 := NB300_298.out
   obtain ⟨hcz19_0, hcz19_1, hfz19_0, hfz19_1⟩ := cz2 BK298
   go_wp2_with (first | (go_at_call 72; (with_reducible refine (impl_SpanOk.calls a0_0 a0_1 false _ A7.out).mono ?_); rintro e w20 ⟨rfl, hb⟩; replace BK298 := bb (bk BK298) hb; replace BK299 := bb (bk BK299) hb; replace BK300 := bb (bk BK300) hb; replace HB := hbb (hzs HB) hb; clear hb))
   repeat (go_quiet (first | (go_at_call 72; (with_reducible refine (impl_SpanOk.calls a0_0 a0_1 false _ A7.out).mono ?_); rintro e w20 ⟨rfl, hb⟩; replace BK298 := bb (bk BK298) hb; replace BK299 := bb (bk BK299) hb; replace BK300 := bb (bk BK300) hb; replace HB := hbb (hzs HB) hb; clear hb)); try go_wp2_with (first | (go_at_call 72; (with_reducible refine (impl_SpanOk.calls a0_0 a0_1 false _ A7.out).mono ?_); rintro e w20 ⟨rfl, hb⟩; replace BK298 := bb (bk BK298) hb; replace BK299 := bb (bk BK299) hb; replace BK300 := bb (bk BK300) hb; replace HB := hbb (hzs HB) hb; clear hb)))
   go_meet
   case rel => exact ⟨_, (true), (by first | rfl | (simp; done) | (simp [*]; done)), H', ⟨by first | omega | exact Nat.le_refl _⟩, ⟨bk BK298⟩, ⟨bk BK299⟩, ⟨bk BK300⟩, ⟨hzs HB⟩⟩
 case rest =>
  clear HC3
  try clear c1
  try clear p2
  try clear c7
  try clear c8
  try clear c10
  try clear c11
  try clear c14
  try clear c17
  try clear c18
  try clear hcz12_0 hcz12_1
  try clear hcz15_0 hcz15_1
  try clear hcz19_0 hcz19_1
  try clear hfz12_0 hfz12_1
  try clear hfz15_0 hfz15_1
  try clear hfz19_0 hfz19_1
  obtain ⟨kq, x17_2, rfl, HA, HJ2, BK298, BK299, BK300, HB⟩ := hcut
  cases kq with
  | zero => exact absurd HA.out (by simp [impl_SpanMul.j0])
  | succ kj2 =>
   have H := HA.out
   clear HA
   simp only [impl_SpanMul.j0] at H
   by_cases c21 : x17_2 = true
   ·subst c21
    have H1 : (some (0, 0, false)) = some (r1, r2, r3) := by rw [if_pos rfl] at H; exact H
    clear H
    have H := H1
    clear H1
    simp only [Option.some.injEq, Prod.mk.injEq] at H
    obtain ⟨rfl, rfl, rfl⟩ := H
    have hnb22 := NB300_298.out
    have hnc22 := NB298_300.out
    have hnb23 := NB300_299.out
    have hnc23 := NB299_300.out
    obtain ⟨hcz24_0, hcz24_1, hfz24_0, hfz24_1⟩ := cz2 BK300
    go_wp2
    repeat (go_quiet (fail); try go_wp2)
    refine bodyPost_ret (results_ct rfl _ _ gb300 42 #[.int .i64 0, .int .i64 0] (0, 0) _ rfl (bkp BK300) Try.underlying42 rfl (by kernel_rfl)) rfl ?_
    exact ⟨by first | rfl | (simp [errW_none, errW_some] <;> rfl) | (simp [*, errW_none, errW_some] <;> rfl), hzs HB⟩
   ·replace c21 := Bool.eq_false_iff.mpr c21
    subst c21
    have H1 : ((impl_down.f (mn (mn (mn (wrap64 (a0_0 * a1_0)) (wrap64 (a0_0 * a1_1))) (wrap64 (a0_1 * a1_0))) (wrap64 (a0_1 * a1_1))) 1000000000).bind fun t303 => ((impl_up.f (mx (mx (mx (wrap64 (a0_0 * a1_0)) (wrap64 (a0_0 * a1_1))) (wrap64 (a0_1 * a1_0))) (wrap64 (a0_1 * a1_1))) 1000000000).bind fun t304 => ((impl_told.f t303 t304).bind fun bt305 => (some (bt305.1, bt305.2.1, bt305.2.2))))) = some (r1, r2, r3) := by rw [if_neg (show ¬ (false = true) by decide)] at H; exact H
    clear H
    have H := H1
    clear H1
    obtain ⟨ji25, hji25⟩ : ∃ j_ : Int, (mn (wrap64 (a0_0 * a1_0)) (wrap64 (a0_0 * a1_1))) = j_ := ⟨_, rfl⟩
    replace H : ((impl_down.f (mn (mn (ji25) (wrap64 (a0_1 * a1_0))) (wrap64 (a0_1 * a1_1))) 1000000000).bind fun t303 => ((impl_up.f (mx (mx (mx (wrap64 (a0_0 * a1_0)) (wrap64 (a0_0 * a1_1))) (wrap64 (a0_1 * a1_0))) (wrap64 (a0_1 * a1_1))) 1000000000).bind fun t304 => ((impl_told.f t303 t304).bind fun bt305 => (some (bt305.1, bt305.2.1, bt305.2.2))))) = some (r1, r2, r3) := by first | (rw [hji25] at H; exact H) | (simp only [hji25] at H ⊢; exact H)
    have hji25_ : (if (wrap64 (a0_0 * a1_1)) < (wrap64 (a0_0 * a1_0)) then (wrap64 (a0_0 * a1_1)) else (wrap64 (a0_0 * a1_0))) = ji25 := hji25
    obtain ⟨ji26, hji26⟩ : ∃ j_ : Int, (mn (ji25) (wrap64 (a0_1 * a1_0))) = j_ := ⟨_, rfl⟩
    replace H : ((impl_down.f (mn (ji26) (wrap64 (a0_1 * a1_1))) 1000000000).bind fun t303 => ((impl_up.f (mx (mx (mx (wrap64 (a0_0 * a1_0)) (wrap64 (a0_0 * a1_1))) (wrap64 (a0_1 * a1_0))) (wrap64 (a0_1 * a1_1))) 1000000000).bind fun t304 => ((impl_told.f t303 t304).bind fun bt305 => (some (bt305.1, bt305.2.1, bt305.2.2))))) = some (r1, r2, r3) := by first | (rw [hji26] at H; exact H) | (simp only [hji26] at H ⊢; exact H)
    have hji26_ : (if (wrap64 (a0_1 * a1_0)) < (ji25) then (wrap64 (a0_1 * a1_0)) else (ji25)) = ji26 := hji26
    obtain ⟨ji27, hji27⟩ : ∃ j_ : Int, (mn (ji26) (wrap64 (a0_1 * a1_1))) = j_ := ⟨_, rfl⟩
    replace H : ((impl_down.f (ji27) 1000000000).bind fun t303 => ((impl_up.f (mx (mx (mx (wrap64 (a0_0 * a1_0)) (wrap64 (a0_0 * a1_1))) (wrap64 (a0_1 * a1_0))) (wrap64 (a0_1 * a1_1))) 1000000000).bind fun t304 => ((impl_told.f t303 t304).bind fun bt305 => (some (bt305.1, bt305.2.1, bt305.2.2))))) = some (r1, r2, r3) := by first | (rw [hji27] at H; exact H) | (simp only [hji27] at H ⊢; exact H)
    have hji27_ : (if (wrap64 (a0_1 * a1_1)) < (ji26) then (wrap64 (a0_1 * a1_1)) else (ji26)) = ji27 := hji27
    replace H := Option.bind_eq_some_iff.mp H
    obtain ⟨t303, A280, H⟩ := H
    try dsimp only at H
    have A28 := Aside0.mk A280
    clear A280
    obtain ⟨ji29, hji29⟩ : ∃ j_ : Int, (mx (wrap64 (a0_0 * a1_0)) (wrap64 (a0_0 * a1_1))) = j_ := ⟨_, rfl⟩
    replace H : ((impl_up.f (mx (mx (ji29) (wrap64 (a0_1 * a1_0))) (wrap64 (a0_1 * a1_1))) 1000000000).bind fun t304 => ((impl_told.f t303 t304).bind fun bt305 => (some (bt305.1, bt305.2.1, bt305.2.2)))) = some (r1, r2, r3) := by first | (rw [hji29] at H; exact H) | (simp only [hji29] at H ⊢; exact H)
    (try rw [hji29] at A28)
    have hji29_ : (if (wrap64 (a0_0 * a1_0)) < (wrap64 (a0_0 * a1_1)) then (wrap64 (a0_0 * a1_1)) else (wrap64 (a0_0 * a1_0))) = ji29 := hji29
    obtain ⟨ji30, hji30⟩ : ∃ j_ : Int, (mx (ji29) (wrap64 (a0_1 * a1_0))) = j_ := ⟨_, rfl⟩
    replace H : ((impl_up.f (mx (ji30) (wrap64 (a0_1 * a1_1))) 1000000000).bind fun t304 => ((impl_told.f t303 t304).bind fun bt305 => (some (bt305.1, bt305.2.1, bt305.2.2)))) = some (r1, r2, r3) := by first | (rw [hji30] at H; exact H) | (simp only [hji30] at H ⊢; exact H)
    (try rw [hji30] at A28)
    have hji30_ : (if (ji29) < (wrap64 (a0_1 * a1_0)) then (wrap64 (a0_1 * a1_0)) else (ji29)) = ji30 := hji30
    obtain ⟨ji31, hji31⟩ : ∃ j_ : Int, (mx (ji30) (wrap64 (a0_1 * a1_1))) = j_ := ⟨_, rfl⟩
    replace H : ((impl_up.f (ji31) 1000000000).bind fun t304 => ((impl_told.f t303 t304).bind fun bt305 => (some (bt305.1, bt305.2.1, bt305.2.2)))) = some (r1, r2, r3) := by first | (rw [hji31] at H; exact H) | (simp only [hji31] at H ⊢; exact H)
    (try rw [hji31] at A28)
    have hji31_ : (if (ji30) < (wrap64 (a0_1 * a1_1)) then (wrap64 (a0_1 * a1_1)) else (ji30)) = ji31 := hji31
    replace H := Option.bind_eq_some_iff.mp H
    obtain ⟨t304, A320, H⟩ := H
    try dsimp only at H
    have A32 := Aside0.mk A320
    clear A320
    replace H := Option.bind_eq_some_iff.mp H
    obtain ⟨⟨t305, t306, t307⟩, A330, H⟩ := H
    try dsimp only at H
    have A33 := Aside0.mk A330
    clear A330
    simp only [Option.some.injEq, Prod.mk.injEq] at H
    obtain ⟨rfl, rfl, rfl⟩ := H
    have hnb34 := NB298_299.out
    have hnc34 := NB299_298.out
    have hnb35 := NB298_300.out
    have hnc35 := NB300_298.out
    obtain ⟨hcz36_0, hcz36_1, hfz36_0, hfz36_1⟩ := cz2 BK298
    have hnb37 := NB299_300.out
    have hnc37 := NB300_299.out
    obtain ⟨hcz38_0, hcz38_1, hfz38_0, hfz38_1⟩ := cz2 BK299
    go_wp2_with (first | (go_at_call 71; (with_reducible refine (impl_down.calls ji27 1000000000 t303 _ A28.out).mono ?_); rintro e w' ⟨rfl, ⟨nd, rfl⟩⟩; (try first | exact ⟨rfl, _, World.drewN_drewN _ _ _⟩ | exact ⟨rfl, _, Eq.trans (World.drewN_drewN _ _ _) (congrArg (World.drewN _) (Nat.add_assoc _ _ _))⟩)) | (go_at_call 96; (with_reducible refine (impl_up.calls ji31 1000000000 t304 _ A32.out).mono ?_); rintro e w' ⟨rfl, ⟨nd, rfl⟩⟩; (try first | exact ⟨rfl, _, World.drewN_drewN _ _ _⟩ | exact ⟨rfl, _, Eq.trans (World.drewN_drewN _ _ _) (congrArg (World.drewN _) (Nat.add_assoc _ _ _))⟩)) | (go_at_call 73; (with_reducible refine (impl_told.calls t303 t304 t305 t306 t307 _ A33.out).mono ?_); rintro e w39 ⟨rfl, hb⟩; replace BK298 := bb (bk BK298) hb; replace BK299 := bb (bk BK299) hb; replace BK300 := bb (bk BK300) hb; replace HB := hbb (hzs HB) hb; clear hb; obtain ⟨hcz40_0, hcz40_1, hfz40_0, hfz40_1⟩ := cz2 BK300))
    repeat (go_quiet (first | (go_at_call 71; (with_reducible refine (impl_down.calls ji27 1000000000 t303 _ A28.out).mono ?_); rintro e w' ⟨rfl, ⟨nd, rfl⟩⟩; (try first | exact ⟨rfl, _, World.drewN_drewN _ _ _⟩ | exact ⟨rfl, _, Eq.trans (World.drewN_drewN _ _ _) (congrArg (World.drewN _) (Nat.add_assoc _ _ _))⟩)) | (go_at_call 96; (with_reducible refine (impl_up.calls ji31 1000000000 t304 _ A32.out).mono ?_); rintro e w' ⟨rfl, ⟨nd, rfl⟩⟩; (try first | exact ⟨rfl, _, World.drewN_drewN _ _ _⟩ | exact ⟨rfl, _, Eq.trans (World.drewN_drewN _ _ _) (congrArg (World.drewN _) (Nat.add_assoc _ _ _))⟩)) | (go_at_call 73; (with_reducible refine (impl_told.calls t303 t304 t305 t306 t307 _ A33.out).mono ?_); rintro e w39 ⟨rfl, hb⟩; replace BK298 := bb (bk BK298) hb; replace BK299 := bb (bk BK299) hb; replace BK300 := bb (bk BK300) hb; replace HB := hbb (hzs HB) hb; clear hb; obtain ⟨hcz40_0, hcz40_1, hfz40_0, hfz40_1⟩ := cz2 BK300)); try go_wp2_with (first | (go_at_call 71; (with_reducible refine (impl_down.calls ji27 1000000000 t303 _ A28.out).mono ?_); rintro e w' ⟨rfl, ⟨nd, rfl⟩⟩; (try first | exact ⟨rfl, _, World.drewN_drewN _ _ _⟩ | exact ⟨rfl, _, Eq.trans (World.drewN_drewN _ _ _) (congrArg (World.drewN _) (Nat.add_assoc _ _ _))⟩)) | (go_at_call 96; (with_reducible refine (impl_up.calls ji31 1000000000 t304 _ A32.out).mono ?_); rintro e w' ⟨rfl, ⟨nd, rfl⟩⟩; (try first | exact ⟨rfl, _, World.drewN_drewN _ _ _⟩ | exact ⟨rfl, _, Eq.trans (World.drewN_drewN _ _ _) (congrArg (World.drewN _) (Nat.add_assoc _ _ _))⟩)) | (go_at_call 73; (with_reducible refine (impl_told.calls t303 t304 t305 t306 t307 _ A33.out).mono ?_); rintro e w39 ⟨rfl, hb⟩; replace BK298 := bb (bk BK298) hb; replace BK299 := bb (bk BK299) hb; replace BK300 := bb (bk BK300) hb; replace HB := hbb (hzs HB) hb; clear hb; obtain ⟨hcz40_0, hcz40_1, hfz40_0, hfz40_1⟩ := cz2 BK300)))
    refine bodyPost_ret (results_ct rfl _ _ gb300 42 #[.int .i64 t305, .int .i64 t306] (0, 0) _ rfl (bkp BK300) Try.underlying42 rfl (by kernel_rfl)) rfl ?_
    exact ⟨by first | rfl | (simp [errW_none, errW_some] <;> rfl) | (simp only [← hji25, ← hji26, ← hji27, ← hji29, ← hji30, ← hji31]; first | rfl | (simp [errW_none, errW_some] <;> rfl)) | (simp [*, errW_none, errW_some] <;> rfl), hzs HB⟩


end Go.Proofs.Ytmcippkpgmehdaa.M
