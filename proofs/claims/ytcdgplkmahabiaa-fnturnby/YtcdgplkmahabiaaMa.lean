import Derived.Test.YtcdgplkmahabiaaM0
namespace Go.Proofs.Ytcdgplkmahabiaa.M
open Go.RowKit Go.Proofs.YtcdgplkmahabiaaW.PrintWords Go.Proofs.YtcdgplkmahabiaaW.PrintLast Go.Proofs.YtcdgplkmahabiaaW.PrintMore
attribute [local go_sem] max2_int min2_int max_two min_two max_three min_three max_four min_four
attribute [local go_sem high] eqA23 eqA30
attribute [local go_sem] fld23_0 fld23_1 fld30_0 fld30_1 fld55_0 fld55_1 fld55_2 fld55_3 fld55_4
set_option linter.unusedVariables false
set_option linter.unusedSimpArgs false

/-! ### impl_in: function 59 -/
def impl_in.f (a0 : Int) (a1 : Int) (a2 : Int) : Option (Bool) := if a1 ≤ a0 then (some (decide (a0 ≤ a2))) else (some false)
set_option maxHeartbeats 8000000 in
set_option maxRecDepth 100000 in
theorem impl_in.calls (a0 : Int) (a1 : Int) (a2 : Int) (r : Bool) (w : World) (h : impl_in.f a0 a1 a2 = some r) :
  Calls Try.prog 59 #[.int .i64 a0, .int .i64 a1, .int .i64 a2] w fun e w' => e = .returned (.bool r) ∧ Drawn0 w w' := by
 have H : (if a1 ≤ a0 then (some (decide (a0 ≤ a2))) else (some false)) = some r := h
 clear h
 by_cases c4 : a1 ≤ a0
 ·rw [if_pos c4] at H
  have c4b0 : decide (a1 ≤ a0) = true := decide_eq_true c4
  clear c4
  obtain rfl := Option.some.inj H
  go_enter Try.func59, Try.ntmps59
  go_wp2
  go_ret
  exact ⟨by first | rfl | (simp; done) | (simp [*]; done), by repeat (first | exact Drawn0.refl _ | apply Drawn0.step)⟩
 ·rw [if_neg c4] at H
  have c4b0 : decide (a1 ≤ a0) = false := decide_eq_false c4
  clear c4
  obtain rfl := Option.some.inj H
  go_enter Try.func59, Try.ntmps59
  go_wp2
  go_ret
  exact ⟨by first | rfl | (simp; done) | (simp [*]; done), by repeat (first | exact Drawn0.refl _ | apply Drawn0.step)⟩


/-! ### impl_SpanOk: function 55 -/
def impl_SpanOk.f (a0_0 : Int) (a0_1 : Int) : Option (Bool) := (impl_in.f a0_0 (-1073000000) 1073000000).bind fun t227 => (if t227 = true then ((impl_in.f a0_1 (-1073000000) 1073000000).bind fun t228 => (if t228 = true then (some (decide (a0_0 ≤ a0_1))) else (some false))) else (some false))
set_option maxHeartbeats 8000000 in
set_option maxRecDepth 100000 in
theorem impl_SpanOk.calls (a0_0 : Int) (a0_1 : Int) (r : Bool) (w : World) (h : impl_SpanOk.f a0_0 a0_1 = some r) :
  Calls Try.prog 55 #[.agg #[.int .i64 a0_0, .int .i64 a0_1]] w fun e w' => e = .returned (.bool r) ∧ Below w.heap.size w w' := by
 have hu23 := Try.underlying23
 have HB := Aside0.mk (Below.refl w.heap.size w)
 have H : ((impl_in.f a0_0 (-1073000000) 1073000000).bind fun t227 => (if t227 = true then ((impl_in.f a0_1 (-1073000000) 1073000000).bind fun t228 => (if t228 = true then (some (decide (a0_0 ≤ a0_1))) else (some false))) else (some false))) = some r := h
 clear h
 replace H := Option.bind_eq_some_iff.mp H
 obtain ⟨t227, A20, H⟩ := H
 replace H : (if t227 = true then ((impl_in.f a0_1 (-1073000000) 1073000000).bind fun t228 => (if t228 = true then (some (decide (a0_0 ≤ a0_1))) else (some false))) else (some false)) = some r := H
 have A2 := Aside0.mk A20
 clear A20
 by_cases c3 : t227 = true
 ·subst c3
  have H1 : ((impl_in.f a0_1 (-1073000000) 1073000000).bind fun t228 => (if t228 = true then (some (decide (a0_0 ≤ a0_1))) else (some false))) = some r := by rw [if_pos rfl] at H; exact H
  clear H
  have H := H1
  clear H1
  replace H := Option.bind_eq_some_iff.mp H
  obtain ⟨t228, A40, H⟩ := H
  replace H : (if t228 = true then (some (decide (a0_0 ≤ a0_1))) else (some false)) = some r := H
  have A4 := Aside0.mk A40
  clear A40
  by_cases c5 : t228 = true
  ·subst c5
   have H1 : (some (decide (a0_0 ≤ a0_1))) = some r := by rw [if_pos rfl] at H; exact H
   clear H
   have H := H1
   clear H1
   obtain rfl := Option.some.inj H
   go_enter Try.func55, Try.ntmps55
   go_wp2_with (first | ((with_reducible refine gate_dst (N := 1) rfl ?_); refine bE 1 #[.int .i64 a0_0, .int .i64 a0_1] 23 ?_; intro gb226 hg w6 hbox hb; have BK226 := Aside0.mk (hbox); have GE226 := gw hg (h0_ HB); have GW226 := GE226; replace HB := hbb (h0_ HB) hb; clear hb hbox hg; obtain ⟨hcz7_0, hcz7_1, hfz7_0, hfz7_1⟩ := cz2 BK226) | ((with_reducible refine gate_callee (f := 59) rfl ?_); refine gL 5 Try.func59 #[.int .i64 a0_0, .int .i64 (-1073000000), .int .i64 1073000000] ?_; (with_reducible refine (impl_in.calls a0_0 (-1073000000) 1073000000 true _ A2.out).mono ?_); rintro e w' ⟨rfl, ⟨nd, rfl⟩⟩; refine ⟨_, rfl, ?_⟩) | (go_at_call 59; (with_reducible refine (impl_in.calls a0_1 (-1073000000) 1073000000 true _ A4.out).mono ?_); rintro e w' ⟨rfl, ⟨nd, rfl⟩⟩))
   go_ret
   exact ⟨by first | rfl | (simp [errW_none, errW_some] <;> rfl) | (simp [*, errW_none, errW_some] <;> rfl), hs_ HB⟩
  ·replace c5 := Bool.eq_false_iff.mpr c5
   subst c5
   have H1 : (some false) = some r := by rw [if_neg (show ¬ (false = true) by decide)] at H; exact H
   clear H
   have H := H1
   clear H1
   obtain rfl := Option.some.inj H
   go_enter Try.func55, Try.ntmps55
   go_wp2_with (first | ((with_reducible refine gate_dst (N := 1) rfl ?_); refine bE 1 #[.int .i64 a0_0, .int .i64 a0_1] 23 ?_; intro gb226 hg w8 hbox hb; have BK226 := Aside0.mk (hbox); have GE226 := gw hg (h0_ HB); have GW226 := GE226; replace HB := hbb (h0_ HB) hb; clear hb hbox hg; obtain ⟨hcz9_0, hcz9_1, hfz9_0, hfz9_1⟩ := cz2 BK226) | ((with_reducible refine gate_callee (f := 59) rfl ?_); refine gL 5 Try.func59 #[.int .i64 a0_0, .int .i64 (-1073000000), .int .i64 1073000000] ?_; (with_reducible refine (impl_in.calls a0_0 (-1073000000) 1073000000 true _ A2.out).mono ?_); rintro e w' ⟨rfl, ⟨nd, rfl⟩⟩; refine ⟨_, rfl, ?_⟩) | (go_at_call 59; (with_reducible refine (impl_in.calls a0_1 (-1073000000) 1073000000 false _ A4.out).mono ?_); rintro e w' ⟨rfl, ⟨nd, rfl⟩⟩))
   go_ret
   exact ⟨by first | rfl | (simp [errW_none, errW_some] <;> rfl) | (simp [*, errW_none, errW_some] <;> rfl), hs_ HB⟩
 ·replace c3 := Bool.eq_false_iff.mpr c3
  subst c3
  have H1 : (some false) = some r := by rw [if_neg (show ¬ (false = true) by decide)] at H; exact H
  clear H
  have H := H1
  clear H1
  obtain rfl := Option.some.inj H
  go_enter Try.func55, Try.ntmps55
  go_wp2_with (first | ((with_reducible refine gate_dst (N := 1) rfl ?_); refine bE 1 #[.int .i64 a0_0, .int .i64 a0_1] 23 ?_; intro gb226 hg w10 hbox hb; have BK226 := Aside0.mk (hbox); have GE226 := gw hg (h0_ HB); have GW226 := GE226; replace HB := hbb (h0_ HB) hb; clear hb hbox hg; obtain ⟨hcz11_0, hcz11_1, hfz11_0, hfz11_1⟩ := cz2 BK226) | ((with_reducible refine gate_callee (f := 59) rfl ?_); refine gL 5 Try.func59 #[.int .i64 a0_0, .int .i64 (-1073000000), .int .i64 1073000000] ?_; (with_reducible refine (impl_in.calls a0_0 (-1073000000) 1073000000 false _ A2.out).mono ?_); rintro e w' ⟨rfl, ⟨nd, rfl⟩⟩; refine ⟨_, rfl, ?_⟩))
  go_ret
  exact ⟨by first | rfl | (simp [errW_none, errW_some] <;> rfl) | (simp [*, errW_none, errW_some] <;> rfl), hs_ HB⟩


/-! ### impl_SpanNeg: function 27 -/
def impl_SpanNeg.f (a0_0 : Int) (a0_1 : Int) : Option (Int × Int) := (impl_SpanOk.f a0_0 a0_1).bind fun t231 => (if t231 = true then (some (wrap64 (-a0_1), wrap64 (-a0_0))) else (some (0, 0)))
set_option maxHeartbeats 8000000 in
set_option maxRecDepth 100000 in
theorem impl_SpanNeg.calls (a0_0 : Int) (a0_1 : Int) (r1 : Int) (r2 : Int) (w : World) (h : impl_SpanNeg.f a0_0 a0_1 = some (r1, r2)) :
  Calls Try.prog 27 #[.agg #[.int .i64 a0_0, .int .i64 a0_1]] w fun e w' => e = .returned (.agg #[.int .i64 r1, .int .i64 r2]) ∧ Below w.heap.size w w' := by
 have hu23 := Try.underlying23
 have HB := Aside0.mk (Below.refl w.heap.size w)
 have H : ((impl_SpanOk.f a0_0 a0_1).bind fun t231 => (if t231 = true then (some (wrap64 (-a0_1), wrap64 (-a0_0))) else (some (0, 0)))) = some (r1, r2) := h
 clear h
 replace H := Option.bind_eq_some_iff.mp H
 obtain ⟨t231, A20, H⟩ := H
 replace H : (if t231 = true then (some (wrap64 (-a0_1), wrap64 (-a0_0))) else (some (0, 0))) = some (r1, r2) := H
 have A2 := Aside0.mk A20
 clear A20
 by_cases c3 : t231 = true
 ·subst c3
  have H1 : (some (wrap64 (-a0_1), wrap64 (-a0_0))) = some (r1, r2) := by rw [if_pos rfl] at H; exact H
  clear H
  have H := H1
  clear H1
  simp only [Option.some.injEq, Prod.mk.injEq] at H
  obtain ⟨rfl, rfl⟩ := H
  go_enter Try.func27, Try.ntmps27
  go_wp2_with (first | ((with_reducible refine gate_dst (N := 1) rfl ?_); refine bE 1 #[.int .i64 a0_0, .int .i64 a0_1] 23 ?_; intro gb229 hg w4 hbox hb; have BK229 := Aside0.mk (hbox); have GE229 := gw hg (h0_ HB); have GW229 := GE229; replace HB := hbb (h0_ HB) hb; clear hb hbox hg) | ((with_reducible refine gate_dst (N := 2) rfl ?_); refine bE 2 #[.int .i64 0, .int .i64 0] 23 ?_; intro gb230 hg w5 hbox hb; have BK230 := Aside0.mk (hbox); have GE230 := gw hg (hs_ HB); have GW230 := GE230; have NB229_230 := nl hg (bk BK229); have NB230_229 := ng hg (bk BK229); replace BK229 := bb (bk BK229) hb; replace HB := hbb (hs_ HB) hb; clear hb hbox hg; have hnb6 := NB229_230.out; have hnc6 := NB230_229.out; obtain ⟨hcz7_0, hcz7_1, hfz7_0, hfz7_1⟩ := cz2 BK229) | ((with_reducible refine gate_callee (f := 55) rfl ?_); refine gL 4 Try.func55 #[.agg #[.int .i64 a0_0, .int .i64 a0_1]] ?_; (with_reducible refine (impl_SpanOk.calls a0_0 a0_1 true _ A2.out).mono ?_); rintro e w8 ⟨rfl, hb⟩; refine ⟨_, rfl, ?_⟩; replace BK229 := bb (bk BK229) hb; replace BK230 := bb (bk BK230) hb; replace HB := hbb (hs_ HB) hb; clear hb; obtain ⟨hcz9_0, hcz9_1, hfz9_0, hfz9_1⟩ := cz2 BK229; obtain ⟨hcz10_0, hcz10_1, hfz10_0, hfz10_1⟩ := cz2 BK230))
  refine bodyPost_ret (results_cell_row rfl _ _ gb230 23 #[.int .i64 (wrap64 (-a0_1)), .int .i64 (wrap64 (-a0_0))] (0, 0) _ rfl (bkp BK230) Try.underlying23 rfl (by kernel_rfl)) rfl ?_
  exact ⟨by first | rfl | (simp [errW_none, errW_some] <;> rfl) | (simp [*, errW_none, errW_some] <;> rfl), hs_ HB⟩
 ·replace c3 := Bool.eq_false_iff.mpr c3
  subst c3
  have H1 : (some (0, 0)) = some (r1, r2) := by rw [if_neg (show ¬ (false = true) by decide)] at H; exact H
  clear H
  have H := H1
  clear H1
  simp only [Option.some.injEq, Prod.mk.injEq] at H
  obtain ⟨rfl, rfl⟩ := H
  go_enter Try.func27, Try.ntmps27
  go_wp2_with (first | ((with_reducible refine gate_dst (N := 1) rfl ?_); refine bE 1 #[.int .i64 a0_0, .int .i64 a0_1] 23 ?_; intro gb229 hg w11 hbox hb; have BK229 := Aside0.mk (hbox); have GE229 := gw hg (h0_ HB); have GW229 := GE229; replace HB := hbb (h0_ HB) hb; clear hb hbox hg) | ((with_reducible refine gate_dst (N := 2) rfl ?_); refine bE 2 #[.int .i64 0, .int .i64 0] 23 ?_; intro gb230 hg w12 hbox hb; have BK230 := Aside0.mk (hbox); have GE230 := gw hg (hs_ HB); have GW230 := GE230; have NB229_230 := nl hg (bk BK229); have NB230_229 := ng hg (bk BK229); replace BK229 := bb (bk BK229) hb; replace HB := hbb (hs_ HB) hb; clear hb hbox hg; have hnb13 := NB229_230.out; have hnc13 := NB230_229.out; obtain ⟨hcz14_0, hcz14_1, hfz14_0, hfz14_1⟩ := cz2 BK229) | ((with_reducible refine gate_callee (f := 55) rfl ?_); refine gL 4 Try.func55 #[.agg #[.int .i64 a0_0, .int .i64 a0_1]] ?_; (with_reducible refine (impl_SpanOk.calls a0_0 a0_1 false _ A2.out).mono ?_); rintro e w15 ⟨rfl, hb⟩; refine ⟨_, rfl, ?_⟩; replace BK229 := bb (bk BK229) hb; replace BK230 := bb (bk BK230) hb; replace HB := hbb (hs_ HB) hb; clear hb; obtain ⟨hcz16_0, hcz16_1, hfz16_0, hfz16_1⟩ := cz2 BK230))
  refine bodyPost_ret (results_cell_row rfl _ _ gb230 23 #[.int .i64 0, .int .i64 0] (0, 0) _ rfl (bkp BK230) Try.underlying23 rfl (by kernel_rfl)) rfl ?_
  exact ⟨by first | rfl | (simp [errW_none, errW_some] <;> rfl) | (simp [*, errW_none, errW_some] <;> rfl), hs_ HB⟩


/-! ### impl_down: function 61 -/
def impl_down.f (a0 : Int) (a1 : Int) : Option (Int) := if a1 = 0 then (none) else (if (Int.tmod a0 a1) < 0 then (some (wrap64 ((wrap64 (Int.tdiv a0 a1)) - 1))) else (some (wrap64 (Int.tdiv a0 a1))))
set_option maxHeartbeats 8000000 in
set_option maxRecDepth 100000 in
theorem impl_down.calls (a0 : Int) (a1 : Int) (r : Int) (w : World) (h : impl_down.f a0 a1 = some r) :
  Calls Try.prog 61 #[.int .i64 a0, .int .i64 a1] w fun e w' => e = .returned (.int .i64 r) ∧ Drawn0 w w' := by
 have H : (if a1 = 0 then (none) else (if (Int.tmod a0 a1) < 0 then (some (wrap64 ((wrap64 (Int.tdiv a0 a1)) - 1))) else (some (wrap64 (Int.tdiv a0 a1))))) = some r := h
 clear h
 by_cases c3 : a1 = 0
 ·rw [if_pos c3] at H
  exact absurd H (by simp)
 ·rw [if_neg c3] at H
  have c3b0 : (a1 == 0) = false := beq_eq_false_iff_ne.mpr c3
  have c3b1 : (a1 != 0) = true := bne_iff_ne.mpr c3
  by_cases c4 : (Int.tmod a0 a1) < 0
  ·rw [if_pos c4] at H
   have c4b0 : decide ((Int.tmod a0 a1) < 0) = true := decide_eq_true c4
   clear c4
   obtain rfl := Option.some.inj H
   go_enter Try.func61, Try.ntmps61
   go_wp2
   go_ret
   exact ⟨by first | rfl | (simp; done) | (simp [*]; done), by repeat (first | exact Drawn0.refl _ | apply Drawn0.step)⟩
  ·rw [if_neg c4] at H
   have c4b0 : decide ((Int.tmod a0 a1) < 0) = false := decide_eq_false c4
   clear c4
   obtain rfl := Option.some.inj H
   go_enter Try.func61, Try.ntmps61
   go_wp2
   go_ret
   exact ⟨by first | rfl | (simp; done) | (simp [*]; done), by repeat (first | exact Drawn0.refl _ | apply Drawn0.step)⟩


/-! ### impl_up: function 62 -/
def impl_up.f (a0 : Int) (a1 : Int) : Option (Int) := (impl_down.f (wrap64 (-a0)) a1).bind fun t233 => (some (wrap64 (-t233)))
set_option maxHeartbeats 8000000 in
set_option maxRecDepth 100000 in
theorem impl_up.calls (a0 : Int) (a1 : Int) (r : Int) (w : World) (h : impl_up.f a0 a1 = some r) :
  Calls Try.prog 62 #[.int .i64 a0, .int .i64 a1] w fun e w' => e = .returned (.int .i64 r) ∧ Drawn0 w w' := by
 have H : ((impl_down.f (wrap64 (-a0)) a1).bind fun t233 => (some (wrap64 (-t233)))) = some r := h
 clear h
 replace H := Option.bind_eq_some_iff.mp H
 obtain ⟨t233, A30, H⟩ := H
 replace H : (some (wrap64 (-t233))) = some r := H
 have A3 := Aside0.mk A30
 clear A30
 obtain rfl := Option.some.inj H
 go_enter Try.func62, Try.ntmps62
 go_wp2_with (first | ((with_reducible refine gate_callee (f := 61) rfl ?_); refine gL 8 Try.func61 #[.int .i64 (wrap64 (-a0)), .int .i64 a1] ?_; (with_reducible refine (impl_down.calls (wrap64 (-a0)) a1 t233 _ A3.out).mono ?_); rintro e w' ⟨rfl, ⟨nd, rfl⟩⟩; refine ⟨_, rfl, ?_⟩))
 go_ret
 exact ⟨by first | rfl | (simp; done) | (simp [*]; done), by repeat (first | exact Drawn0.refl _ | apply Drawn0.step)⟩


/-! ### impl_arc: function 72 -/
def impl_arc.f (a0 : Int) : Option (Int × Int) := (impl_down.f (wrap64 (a0 * 785398163)) 32400000).bind fun t235 => ((impl_up.f (wrap64 (a0 * 785398164)) 32400000).bind fun t236 => (some (t235, t236)))
set_option maxHeartbeats 8000000 in
set_option maxRecDepth 100000 in
theorem impl_arc.calls (a0 : Int) (r1 : Int) (r2 : Int) (w : World) (h : impl_arc.f a0 = some (r1, r2)) :
  Calls Try.prog 72 #[.int .i64 a0] w fun e w' => e = .returned (.agg #[.int .i64 r1, .int .i64 r2]) ∧ Below w.heap.size w w' := by
 have hu23 := Try.underlying23
 have HB := Aside0.mk (Below.refl w.heap.size w)
 have H : ((impl_down.f (wrap64 (a0 * 785398163)) 32400000).bind fun t235 => ((impl_up.f (wrap64 (a0 * 785398164)) 32400000).bind fun t236 => (some (t235, t236)))) = some (r1, r2) := h
 clear h
 replace H := Option.bind_eq_some_iff.mp H
 obtain ⟨t235, A20, H⟩ := H
 replace H : ((impl_up.f (wrap64 (a0 * 785398164)) 32400000).bind fun t236 => (some (t235, t236))) = some (r1, r2) := H
 have A2 := Aside0.mk A20
 clear A20
 replace H := Option.bind_eq_some_iff.mp H
 obtain ⟨t236, A30, H⟩ := H
 replace H : (some (t235, t236)) = some (r1, r2) := H
 have A3 := Aside0.mk A30
 clear A30
 simp only [Option.some.injEq, Prod.mk.injEq] at H
 obtain ⟨rfl, rfl⟩ := H
 go_enter Try.func72, Try.ntmps72
 go_wp2_with (first | ((with_reducible refine gate_dst (N := 2) rfl ?_); refine bE 2 #[.int .i64 0, .int .i64 0] 23 ?_; intro gb234 hg w4 hbox hb; have BK234 := Aside0.mk (hbox); have GE234 := gw hg (h0_ HB); have GW234 := GE234; replace HB := hbb (h0_ HB) hb; clear hb hbox hg) | ((with_reducible refine gate_callee (f := 61) rfl ?_); refine gL 5 Try.func61 #[.int .i64 (wrap64 (a0 * 785398163)), .int .i64 32400000] ?_; (with_reducible refine (impl_down.calls (wrap64 (a0 * 785398163)) 32400000 t235 _ A2.out).mono ?_); rintro e w' ⟨rfl, ⟨nd, rfl⟩⟩; refine ⟨_, rfl, ?_⟩; (try (rw [drewN_self w4]; generalize hq_ : World.drewN w4 _ = w4; have n0_ : Aside0 (w4.heap[gb234]? = some (.cells #[.int .i64 0, .int .i64 0] 23 (0, 0))) := ⟨by rw [← hq_]; exact (bk BK234)⟩; have n1_ : Aside0 (Below w.heap.size w w4) := ⟨by rw [← hq_]; exact (hs_ HB)⟩; clear BK234 HB hq_; have BK234 := n0_; have HB := n1_; clear n0_ n1_))) | ((with_reducible refine gate_callee (f := 62) rfl ?_); refine gL 8 Try.func62 #[.int .i64 (wrap64 (a0 * 785398164)), .int .i64 32400000] ?_; (with_reducible refine (impl_up.calls (wrap64 (a0 * 785398164)) 32400000 t236 _ A3.out).mono ?_); rintro e w' ⟨rfl, ⟨nd, rfl⟩⟩; refine ⟨_, rfl, ?_⟩; (try (rw [drewN_self w4]; generalize hq_ : World.drewN w4 _ = w4; have n0_ : Aside0 (w4.heap[gb234]? = some (.cells #[.int .i64 0, .int .i64 0] 23 (0, 0))) := ⟨by rw [← hq_]; exact (bk BK234)⟩; have n1_ : Aside0 (Below w.heap.size w w4) := ⟨by rw [← hq_]; exact (hs_ HB)⟩; clear BK234 HB hq_; have BK234 := n0_; have HB := n1_; clear n0_ n1_)); obtain ⟨hcz5_0, hcz5_1, hfz5_0, hfz5_1⟩ := cz2 BK234))
 refine bodyPost_ret (results_cell_row rfl _ _ gb234 23 #[.int .i64 t235, .int .i64 t236] (0, 0) _ rfl (bkp BK234) Try.underlying23 rfl (by kernel_rfl)) rfl ?_
 exact ⟨by first | rfl | (simp [errW_none, errW_some] <;> rfl) | (simp [*, errW_none, errW_some] <;> rfl), hs_ HB⟩


/-! ### impl_modulo: function 71 -/
def impl_modulo.f (a0 : Int) (a1 : Int) : Option (Int) := (impl_down.f a0 a1).bind fun t232 => (some (wrap64 (a0 - (wrap64 (t232 * a1)))))
set_option maxHeartbeats 8000000 in
set_option maxRecDepth 100000 in
theorem impl_modulo.calls (a0 : Int) (a1 : Int) (r : Int) (w : World) (h : impl_modulo.f a0 a1 = some r) :
  Calls Try.prog 71 #[.int .i64 a0, .int .i64 a1] w fun e w' => e = .returned (.int .i64 r) ∧ Drawn0 w w' := by
 have H : ((impl_down.f a0 a1).bind fun t232 => (some (wrap64 (a0 - (wrap64 (t232 * a1)))))) = some r := h
 clear h
 replace H := Option.bind_eq_some_iff.mp H
 obtain ⟨t232, A30, H⟩ := H
 replace H : (some (wrap64 (a0 - (wrap64 (t232 * a1))))) = some r := H
 have A3 := Aside0.mk A30
 clear A30
 obtain rfl := Option.some.inj H
 go_enter Try.func71, Try.ntmps71
 go_wp2_with (first | ((with_reducible refine gate_callee (f := 61) rfl ?_); refine gL 8 Try.func61 #[.int .i64 a0, .int .i64 a1] ?_; (with_reducible refine (impl_down.calls a0 a1 t232 _ A3.out).mono ?_); rintro e w' ⟨rfl, ⟨nd, rfl⟩⟩; refine ⟨_, rfl, ?_⟩))
 go_ret
 exact ⟨by first | rfl | (simp; done) | (simp [*]; done), by repeat (first | exact Drawn0.refl _ | apply Drawn0.step)⟩


/-! ### impl_isAngle: function 40 -/
def impl_isAngle.f (a0 : Int) : Option (Bool) := (impl_in.f a0 (-1000000000000) 1000000000000).bind fun t225 => (some t225)
set_option maxHeartbeats 8000000 in
set_option maxRecDepth 100000 in
theorem impl_isAngle.calls (a0 : Int) (r : Bool) (w : World) (h : impl_isAngle.f a0 = some r) :
  Calls Try.prog 40 #[.int .i64 a0] w fun e w' => e = .returned (.bool r) ∧ Drawn0 w w' := by
 have H : ((impl_in.f a0 (-1000000000000) 1000000000000).bind fun t225 => (some t225)) = some r := h
 clear h
 replace H := Option.bind_eq_some_iff.mp H
 obtain ⟨t225, A20, H⟩ := H
 replace H : (some t225) = some r := H
 have A2 := Aside0.mk A20
 clear A20
 obtain rfl := Option.some.inj H
 go_enter Try.func40, Try.ntmps40
 go_wp2_with (first | ((with_reducible refine gate_callee (f := 59) rfl ?_); refine gL 4 Try.func59 #[.int .i64 a0, .int .i64 (-1000000000000), .int .i64 1000000000000] ?_; (with_reducible refine (impl_in.calls a0 (-1000000000000) 1000000000000 t225 _ A2.out).mono ?_); rintro e w' ⟨rfl, ⟨nd, rfl⟩⟩; refine ⟨_, rfl, ?_⟩))
 go_ret
 exact ⟨by first | rfl | (simp; done) | (simp [*]; done), by repeat (first | exact Drawn0.refl _ | apply Drawn0.step)⟩


/-! ### impl_aTurn: function 82 -/
def impl_aTurn.f (a0 : Int) : Option (Bool) := (impl_in.f a0 (-129600000) 129600000).bind fun t229 => (some t229)
set_option maxHeartbeats 8000000 in
set_option maxRecDepth 100000 in
theorem impl_aTurn.calls (a0 : Int) (r : Bool) (w : World) (h : impl_aTurn.f a0 = some r) :
  Calls Try.prog 82 #[.int .i64 a0] w fun e w' => e = .returned (.bool r) ∧ Drawn0 w w' := by
 have H : ((impl_in.f a0 (-129600000) 129600000).bind fun t229 => (some t229)) = some r := h
 clear h
 replace H := Option.bind_eq_some_iff.mp H
 obtain ⟨t229, A20, H⟩ := H
 replace H : (some t229) = some r := H
 have A2 := Aside0.mk A20
 clear A20
 obtain rfl := Option.some.inj H
 go_enter Try.func82, Try.ntmps82
 go_wp2_with (first | ((with_reducible refine gate_callee (f := 59) rfl ?_); refine gL 4 Try.func59 #[.int .i64 a0, .int .i64 (-129600000), .int .i64 129600000] ?_; (with_reducible refine (impl_in.calls a0 (-129600000) 129600000 t229 _ A2.out).mono ?_); rintro e w' ⟨rfl, ⟨nd, rfl⟩⟩; refine ⟨_, rfl, ?_⟩))
 go_ret
 exact ⟨by first | rfl | (simp; done) | (simp [*]; done), by repeat (first | exact Drawn0.refl _ | apply Drawn0.step)⟩


/-! ### impl_fanOk: function 58 -/
def impl_fanOk.f (a0_0 : Int) (a0_1 : Int) : Option (Bool) := (impl_aTurn.f a0_0).bind fun t231 => (if t231 = true then ((impl_aTurn.f a0_1).bind fun t232 => (if t232 = true then (some (decide (a0_0 ≤ a0_1))) else (some false))) else (some false))
set_option maxHeartbeats 8000000 in
set_option maxRecDepth 100000 in
theorem impl_fanOk.calls (a0_0 : Int) (a0_1 : Int) (r : Bool) (w : World) (h : impl_fanOk.f a0_0 a0_1 = some r) :
  Calls Try.prog 58 #[.agg #[.int .i64 a0_0, .int .i64 a0_1]] w fun e w' => e = .returned (.bool r) ∧ Below w.heap.size w w' := by
 have hu30 := Try.underlying30
 have HB := Aside0.mk (Below.refl w.heap.size w)
 have H : ((impl_aTurn.f a0_0).bind fun t231 => (if t231 = true then ((impl_aTurn.f a0_1).bind fun t232 => (if t232 = true then (some (decide (a0_0 ≤ a0_1))) else (some false))) else (some false))) = some r := h
 clear h
 replace H := Option.bind_eq_some_iff.mp H
 obtain ⟨t231, A20, H⟩ := H
 replace H : (if t231 = true then ((impl_aTurn.f a0_1).bind fun t232 => (if t232 = true then (some (decide (a0_0 ≤ a0_1))) else (some false))) else (some false)) = some r := H
 have A2 := Aside0.mk A20
 clear A20
 by_cases c3 : t231 = true
 ·subst c3
  have H1 : ((impl_aTurn.f a0_1).bind fun t232 => (if t232 = true then (some (decide (a0_0 ≤ a0_1))) else (some false))) = some r := by rw [if_pos rfl] at H; exact H
  clear H
  have H := H1
  clear H1
  replace H := Option.bind_eq_some_iff.mp H
  obtain ⟨t232, A40, H⟩ := H
  replace H : (if t232 = true then (some (decide (a0_0 ≤ a0_1))) else (some false)) = some r := H
  have A4 := Aside0.mk A40
  clear A40
  by_cases c5 : t232 = true
  ·subst c5
   have H1 : (some (decide (a0_0 ≤ a0_1))) = some r := by rw [if_pos rfl] at H; exact H
   clear H
   have H := H1
   clear H1
   obtain rfl := Option.some.inj H
   go_enter Try.func58, Try.ntmps58
   go_wp2_with (first | ((with_reducible refine gate_dst (N := 1) rfl ?_); refine bE 1 #[.int .i64 a0_0, .int .i64 a0_1] 30 ?_; intro gb230 hg w6 hbox hb; have BK230 := Aside0.mk (hbox); have GE230 := gw hg (h0_ HB); have GW230 := GE230; replace HB := hbb (h0_ HB) hb; clear hb hbox hg; obtain ⟨hcz7_0, hcz7_1, hfz7_0, hfz7_1⟩ := cz2 BK230) | ((with_reducible refine gate_callee (f := 82) rfl ?_); refine gL 5 Try.func82 #[.int .i64 a0_0] ?_; (with_reducible refine (impl_aTurn.calls a0_0 true _ A2.out).mono ?_); rintro e w' ⟨rfl, ⟨nd, rfl⟩⟩; refine ⟨_, rfl, ?_⟩) | (go_at_call 82; (with_reducible refine (impl_aTurn.calls a0_1 true _ A4.out).mono ?_); rintro e w' ⟨rfl, ⟨nd, rfl⟩⟩))
   go_ret
   exact ⟨by first | rfl | (simp [errW_none, errW_some] <;> rfl) | (simp [*, errW_none, errW_some] <;> rfl), hs_ HB⟩
  ·replace c5 := Bool.eq_false_iff.mpr c5
   subst c5
   have H1 : (some false) = some r := by rw [if_neg (show ¬ (false = true) by decide)] at H; exact H
   clear H
   have H := H1
   clear H1
   obtain rfl := Option.some.inj H
   go_enter Try.func58, Try.ntmps58
   go_wp2_with (first | ((with_reducible refine gate_dst (N := 1) rfl ?_); refine bE 1 #[.int .i64 a0_0, .int .i64 a0_1] 30 ?_; intro gb230 hg w8 hbox hb; have BK230 := Aside0.mk (hbox); have GE230 := gw hg (h0_ HB); have GW230 := GE230; replace HB := hbb (h0_ HB) hb; clear hb hbox hg; obtain ⟨hcz9_0, hcz9_1, hfz9_0, hfz9_1⟩ := cz2 BK230) | ((with_reducible refine gate_callee (f := 82) rfl ?_); refine gL 5 Try.func82 #[.int .i64 a0_0] ?_; (with_reducible refine (impl_aTurn.calls a0_0 true _ A2.out).mono ?_); rintro e w' ⟨rfl, ⟨nd, rfl⟩⟩; refine ⟨_, rfl, ?_⟩) | (go_at_call 82; (with_reducible refine (impl_aTurn.calls a0_1 false _ A4.out).mono ?_); rintro e w' ⟨rfl, ⟨nd, rfl⟩⟩))
   go_ret
   exact ⟨by first | rfl | (simp [errW_none, errW_some] <;> rfl) | (simp [*, errW_none, errW_some] <;> rfl), hs_ HB⟩
 ·replace c3 := Bool.eq_false_iff.mpr c3
  subst c3
  have H1 : (some false) = some r := by rw [if_neg (show ¬ (false = true) by decide)] at H; exact H
  clear H
  have H := H1
  clear H1
  obtain rfl := Option.some.inj H
  go_enter Try.func58, Try.ntmps58
  go_wp2_with (first | ((with_reducible refine gate_dst (N := 1) rfl ?_); refine bE 1 #[.int .i64 a0_0, .int .i64 a0_1] 30 ?_; intro gb230 hg w10 hbox hb; have BK230 := Aside0.mk (hbox); have GE230 := gw hg (h0_ HB); have GW230 := GE230; replace HB := hbb (h0_ HB) hb; clear hb hbox hg; obtain ⟨hcz11_0, hcz11_1, hfz11_0, hfz11_1⟩ := cz2 BK230) | ((with_reducible refine gate_callee (f := 82) rfl ?_); refine gL 5 Try.func82 #[.int .i64 a0_0] ?_; (with_reducible refine (impl_aTurn.calls a0_0 false _ A2.out).mono ?_); rintro e w' ⟨rfl, ⟨nd, rfl⟩⟩; refine ⟨_, rfl, ?_⟩))
  go_ret
  exact ⟨by first | rfl | (simp [errW_none, errW_some] <;> rfl) | (simp [*, errW_none, errW_some] <;> rfl), hs_ HB⟩


/-! ### impl_FanHas: function 31 -/
def impl_FanHas.f (a0_0 : Int) (a0_1 : Int) (a1 : Int) : Option (Bool) := (impl_fanOk.f a0_0 a0_1).bind fun t234 => (if t234 = true then ((impl_in.f a1 a0_0 a0_1).bind fun t235 => (some t235)) else (some false))
set_option maxHeartbeats 8000000 in
set_option maxRecDepth 100000 in
theorem impl_FanHas.calls (a0_0 : Int) (a0_1 : Int) (a1 : Int) (r : Bool) (w : World) (h : impl_FanHas.f a0_0 a0_1 a1 = some r) :
  Calls Try.prog 31 #[.agg #[.int .i64 a0_0, .int .i64 a0_1], .int .i64 a1] w fun e w' => e = .returned (.bool r) ∧ Below w.heap.size w w' := by
 have hu30 := Try.underlying30
 have HB := Aside0.mk (Below.refl w.heap.size w)
 have H : ((impl_fanOk.f a0_0 a0_1).bind fun t234 => (if t234 = true then ((impl_in.f a1 a0_0 a0_1).bind fun t235 => (some t235)) else (some false))) = some r := h
 clear h
 replace H := Option.bind_eq_some_iff.mp H
 obtain ⟨t234, A30, H⟩ := H
 replace H : (if t234 = true then ((impl_in.f a1 a0_0 a0_1).bind fun t235 => (some t235)) else (some false)) = some r := H
 have A3 := Aside0.mk A30
 clear A30
 by_cases c4 : t234 = true
 ·subst c4
  have H1 : ((impl_in.f a1 a0_0 a0_1).bind fun t235 => (some t235)) = some r := by rw [if_pos rfl] at H; exact H
  clear H
  have H := H1
  clear H1
  replace H := Option.bind_eq_some_iff.mp H
  obtain ⟨t235, A50, H⟩ := H
  replace H : (some t235) = some r := H
  have A5 := Aside0.mk A50
  clear A50
  obtain rfl := Option.some.inj H
  go_enter Try.func31, Try.ntmps31
  go_wp2_with (first | ((with_reducible refine gate_dst (N := 2) rfl ?_); refine bE 2 #[.int .i64 a0_0, .int .i64 a0_1] 30 ?_; intro gb233 hg w6 hbox hb; have BK233 := Aside0.mk (hbox); have GE233 := gw hg (h0_ HB); have GW233 := GE233; replace HB := hbb (h0_ HB) hb; clear hb hbox hg; obtain ⟨hcz7_0, hcz7_1, hfz7_0, hfz7_1⟩ := cz2 BK233) | ((with_reducible refine gate_callee (f := 58) rfl ?_); refine gL 6 Try.func58 #[.agg #[.int .i64 a0_0, .int .i64 a0_1]] ?_; (with_reducible refine (impl_fanOk.calls a0_0 a0_1 true _ A3.out).mono ?_); rintro e w8 ⟨rfl, hb⟩; refine ⟨_, rfl, ?_⟩; replace BK233 := bb (bk BK233) hb; replace HB := hbb (hs_ HB) hb; clear hb; obtain ⟨hcz9_0, hcz9_1, hfz9_0, hfz9_1⟩ := cz2 BK233) | (go_at_call 59; (with_reducible refine (impl_in.calls a1 a0_0 a0_1 t235 _ A5.out).mono ?_); rintro e w' ⟨rfl, ⟨nd, rfl⟩⟩))
  go_ret
  exact ⟨by first | rfl | (simp [errW_none, errW_some] <;> rfl) | (simp [*, errW_none, errW_some] <;> rfl), hs_ HB⟩
 ·replace c4 := Bool.eq_false_iff.mpr c4
  subst c4
  have H1 : (some false) = some r := by rw [if_neg (show ¬ (false = true) by decide)] at H; exact H
  clear H
  have H := H1
  clear H1
  obtain rfl := Option.some.inj H
  go_enter Try.func31, Try.ntmps31
  go_wp2_with (first | ((with_reducible refine gate_dst (N := 2) rfl ?_); refine bE 2 #[.int .i64 a0_0, .int .i64 a0_1] 30 ?_; intro gb233 hg w10 hbox hb; have BK233 := Aside0.mk (hbox); have GE233 := gw hg (h0_ HB); have GW233 := GE233; replace HB := hbb (h0_ HB) hb; clear hb hbox hg; obtain ⟨hcz11_0, hcz11_1, hfz11_0, hfz11_1⟩ := cz2 BK233) | ((with_reducible refine gate_callee (f := 58) rfl ?_); refine gL 6 Try.func58 #[.agg #[.int .i64 a0_0, .int .i64 a0_1]] ?_; (with_reducible refine (impl_fanOk.calls a0_0 a0_1 false _ A3.out).mono ?_); rintro e w12 ⟨rfl, hb⟩; refine ⟨_, rfl, ?_⟩; replace BK233 := bb (bk BK233) hb; replace HB := hbb (hs_ HB) hb; clear hb))
  go_ret
  exact ⟨by first | rfl | (simp [errW_none, errW_some] <;> rfl) | (simp [*, errW_none, errW_some] <;> rfl), hs_ HB⟩


/-! ### impl_isPart: function 50 -/
def impl_isPart.f (a0 : Int) : Option (Bool) := (impl_in.f a0 (-1000000000) 1000000000).bind fun t101 => (some t101)
set_option maxHeartbeats 8000000 in
set_option maxRecDepth 100000 in
theorem impl_isPart.calls (a0 : Int) (r : Bool) (w : World) (h : impl_isPart.f a0 = some r) :
  Calls Try.prog 50 #[.int .i64 a0] w fun e w' => e = .returned (.bool r) ∧ Drawn0 w w' := by
 have H : ((impl_in.f a0 (-1000000000) 1000000000).bind fun t101 => (some t101)) = some r := h
 clear h
 replace H := Option.bind_eq_some_iff.mp H
 obtain ⟨t101, A20, H⟩ := H
 replace H : (some t101) = some r := H
 have A2 := Aside0.mk A20
 clear A20
 obtain rfl := Option.some.inj H
 go_enter Try.func50, Try.ntmps50
 go_wp2_with (first | ((with_reducible refine gate_callee (f := 59) rfl ?_); refine gL 4 Try.func59 #[.int .i64 a0, .int .i64 (-1000000000), .int .i64 1000000000] ?_; (with_reducible refine (impl_in.calls a0 (-1000000000) 1000000000 t101 _ A2.out).mono ?_); rintro e w' ⟨rfl, ⟨nd, rfl⟩⟩; refine ⟨_, rfl, ?_⟩))
 go_ret
 exact ⟨by first | rfl | (simp; done) | (simp [*]; done), by repeat (first | exact Drawn0.refl _ | apply Drawn0.step)⟩


/-! ### impl_isHalf: function 39 -/
def impl_isHalf.f (a0 : Int) : Option (Bool) := (impl_in.f a0 (-500000000) 500000000).bind fun t199 => (some t199)
set_option maxHeartbeats 8000000 in
set_option maxRecDepth 100000 in
theorem impl_isHalf.calls (a0 : Int) (r : Bool) (w : World) (h : impl_isHalf.f a0 = some r) :
  Calls Try.prog 39 #[.int .i64 a0] w fun e w' => e = .returned (.bool r) ∧ Drawn0 w w' := by
 have H : ((impl_in.f a0 (-500000000) 500000000).bind fun t199 => (some t199)) = some r := h
 clear h
 replace H := Option.bind_eq_some_iff.mp H
 obtain ⟨t199, A20, H⟩ := H
 replace H : (some t199) = some r := H
 have A2 := Aside0.mk A20
 clear A20
 obtain rfl := Option.some.inj H
 go_enter Try.func39, Try.ntmps39
 go_wp2_with (first | ((with_reducible refine gate_callee (f := 59) rfl ?_); refine gL 4 Try.func59 #[.int .i64 a0, .int .i64 (-500000000), .int .i64 500000000] ?_; (with_reducible refine (impl_in.calls a0 (-500000000) 500000000 t199 _ A2.out).mono ?_); rintro e w' ⟨rfl, ⟨nd, rfl⟩⟩; refine ⟨_, rfl, ?_⟩))
 go_ret
 exact ⟨by first | rfl | (simp; done) | (simp [*]; done), by repeat (first | exact Drawn0.refl _ | apply Drawn0.step)⟩


end Go.Proofs.Ytcdgplkmahabiaa.M
