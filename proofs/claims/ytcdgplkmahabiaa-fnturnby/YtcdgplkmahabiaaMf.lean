import Derived.Test.YtcdgplkmahabiaaM0
import Derived.Test.YtcdgplkmahabiaaMa
namespace Go.Proofs.Ytcdgplkmahabiaa.M
open Go.RowKit Go.Proofs.YtcdgplkmahabiaaW.PrintWords Go.Proofs.YtcdgplkmahabiaaW.PrintLast Go.Proofs.YtcdgplkmahabiaaW.PrintMore
attribute [local go_sem] max2_int min2_int max_two min_two max_three min_three max_four min_four
attribute [local go_sem high] eqA23 eqA30
attribute [local go_sem] fld23_0 fld23_1 fld30_0 fld30_1 fld55_0 fld55_1 fld55_2 fld55_3 fld55_4
set_option linter.unusedVariables false
set_option linter.unusedSimpArgs false

/-! ### impl_told: function 60 -/
def impl_told.f (a0_0 : Int) (a0_1 : Int) : Option (Int × Int × Bool) := (impl_SpanOk.f a0_0 a0_1).bind fun t248 => (if t248 = true then (some (a0_0, a0_1, true)) else (some (0, 0, false)))
set_option maxHeartbeats 8000000 in
set_option maxRecDepth 100000 in
theorem impl_told.calls (a0_0 : Int) (a0_1 : Int) (r1 : Int) (r2 : Int) (r3 : Bool) (w : World) (h : impl_told.f a0_0 a0_1 = some (r1, r2, r3)) :
  Calls Try.prog 60 #[.agg #[.int .i64 a0_0, .int .i64 a0_1]] w fun e w' => e = .returned (.tuple #[.agg #[.int .i64 r1, .int .i64 r2], .bool r3]) ∧ Below w.heap.size w w' := by
 have hu23 := Try.underlying23
 have HB := Aside0.mk (Below.refl w.heap.size w)
 have H : ((impl_SpanOk.f a0_0 a0_1).bind fun t248 => (if t248 = true then (some (a0_0, a0_1, true)) else (some (0, 0, false)))) = some (r1, r2, r3) := h
 clear h
 replace H := Option.bind_eq_some_iff.mp H
 obtain ⟨t248, A20, H⟩ := H
 replace H : (if t248 = true then (some (a0_0, a0_1, true)) else (some (0, 0, false))) = some (r1, r2, r3) := H
 have A2 := Aside0.mk A20
 clear A20
 by_cases c3 : t248 = true
 ·subst c3
  have H1 : (some (a0_0, a0_1, true)) = some (r1, r2, r3) := by rw [if_pos rfl] at H; exact H
  clear H
  have H := H1
  clear H1
  simp only [Option.some.injEq, Prod.mk.injEq] at H
  obtain ⟨rfl, rfl, rfl⟩ := H
  go_enter Try.func60, Try.ntmps60
  go_wp2_with (first | ((with_reducible refine gate_dst (N := 1) rfl ?_); refine bE 1 #[.int .i64 a0_0, .int .i64 a0_1] 23 ?_; intro gb246 hg w4 hbox hb; have BK246 := Aside0.mk (hbox); have GE246 := gw hg (h0_ HB); have GW246 := GE246; replace HB := hbb (h0_ HB) hb; clear hb hbox hg) | ((with_reducible refine gate_dst (N := 2) rfl ?_); refine bE 2 #[.int .i64 0, .int .i64 0] 23 ?_; intro gb247 hg w5 hbox hb; have BK247 := Aside0.mk (hbox); have GE247 := gw hg (hs_ HB); have GW247 := GE247; have NB246_247 := nl hg (bk BK246); have NB247_246 := ng hg (bk BK246); replace BK246 := bb (bk BK246) hb; replace HB := hbb (hs_ HB) hb; clear hb hbox hg; have hnb6 := NB246_247.out; have hnc6 := NB247_246.out; obtain ⟨hcz7_0, hcz7_1, hfz7_0, hfz7_1⟩ := cz2 BK246) | ((with_reducible refine gate_callee (f := 55) rfl ?_); refine gL 5 Try.func55 #[.agg #[.int .i64 a0_0, .int .i64 a0_1]] ?_; (with_reducible refine (impl_SpanOk.calls a0_0 a0_1 true _ A2.out).mono ?_); rintro e w8 ⟨rfl, hb⟩; refine ⟨_, rfl, ?_⟩; replace BK246 := bb (bk BK246) hb; replace BK247 := bb (bk BK247) hb; replace HB := hbb (hs_ HB) hb; clear hb; obtain ⟨hcz9_0, hcz9_1, hfz9_0, hfz9_1⟩ := cz2 BK246; obtain ⟨hcz10_0, hcz10_1, hfz10_0, hfz10_1⟩ := cz2 BK247))
  refine bodyPost_ret (results_ct rfl _ _ gb247 23 #[.int .i64 a0_0, .int .i64 a0_1] (0, 0) _ rfl (bkp BK247) Try.underlying23 rfl (by kernel_rfl)) rfl ?_
  exact ⟨by first | rfl | (simp [errW_none, errW_some] <;> rfl) | (simp [*, errW_none, errW_some] <;> rfl), hs_ HB⟩
 ·replace c3 := Bool.eq_false_iff.mpr c3
  subst c3
  have H1 : (some (0, 0, false)) = some (r1, r2, r3) := by rw [if_neg (show ¬ (false = true) by decide)] at H; exact H
  clear H
  have H := H1
  clear H1
  simp only [Option.some.injEq, Prod.mk.injEq] at H
  obtain ⟨rfl, rfl, rfl⟩ := H
  go_enter Try.func60, Try.ntmps60
  go_wp2_with (first | ((with_reducible refine gate_dst (N := 1) rfl ?_); refine bE 1 #[.int .i64 a0_0, .int .i64 a0_1] 23 ?_; intro gb246 hg w11 hbox hb; have BK246 := Aside0.mk (hbox); have GE246 := gw hg (h0_ HB); have GW246 := GE246; replace HB := hbb (h0_ HB) hb; clear hb hbox hg) | ((with_reducible refine gate_dst (N := 2) rfl ?_); refine bE 2 #[.int .i64 0, .int .i64 0] 23 ?_; intro gb247 hg w12 hbox hb; have BK247 := Aside0.mk (hbox); have GE247 := gw hg (hs_ HB); have GW247 := GE247; have NB246_247 := nl hg (bk BK246); have NB247_246 := ng hg (bk BK246); replace BK246 := bb (bk BK246) hb; replace HB := hbb (hs_ HB) hb; clear hb hbox hg; have hnb13 := NB246_247.out; have hnc13 := NB247_246.out; obtain ⟨hcz14_0, hcz14_1, hfz14_0, hfz14_1⟩ := cz2 BK246) | ((with_reducible refine gate_callee (f := 55) rfl ?_); refine gL 5 Try.func55 #[.agg #[.int .i64 a0_0, .int .i64 a0_1]] ?_; (with_reducible refine (impl_SpanOk.calls a0_0 a0_1 false _ A2.out).mono ?_); rintro e w15 ⟨rfl, hb⟩; refine ⟨_, rfl, ?_⟩; replace BK246 := bb (bk BK246) hb; replace BK247 := bb (bk BK247) hb; replace HB := hbb (hs_ HB) hb; clear hb; obtain ⟨hcz16_0, hcz16_1, hfz16_0, hfz16_1⟩ := cz2 BK247))
  refine bodyPost_ret (results_ct rfl _ _ gb247 23 #[.int .i64 0, .int .i64 0] (0, 0) _ rfl (bkp BK247) Try.underlying23 rfl (by kernel_rfl)) rfl ?_
  exact ⟨by first | rfl | (simp [errW_none, errW_some] <;> rfl) | (simp [*, errW_none, errW_some] <;> rfl), hs_ HB⟩


/-! ### impl_SpanMul: function 32 -/
def impl_SpanMul.j0 : Nat → Bool → Int → Int → Int → Int → Option (Int × Int × Bool)
 | 0, _, _, _, _, _ => none
 | k + 1, x17, x258000, x258001, x259000, x259001 => if x17 = true then (some (0, 0, false)) else ((impl_down.f (mn (mn (mn (wrap64 (x258000 * x259000)) (wrap64 (x258000 * x259001))) (wrap64 (x258001 * x259000))) (wrap64 (x258001 * x259001))) 1000000000).bind fun t262 => ((impl_up.f (mx (mx (mx (wrap64 (x258000 * x259000)) (wrap64 (x258000 * x259001))) (wrap64 (x258001 * x259000))) (wrap64 (x258001 * x259001))) 1000000000).bind fun t263 => ((impl_told.f t262 t263).bind fun bt264 => (some (bt264.1, bt264.2.1, bt264.2.2)))))
def impl_SpanMul.f (k : Nat) (a0_0 : Int) (a0_1 : Int) (a1_0 : Int) (a1_1 : Int) : Option (Int × Int × Bool) := (impl_SpanOk.f a0_0 a0_1).bind fun t260 => (if t260 = true then ((impl_SpanOk.f a1_0 a1_1).bind fun t261 => (impl_SpanMul.j0 k (!t261) a0_0 a0_1 a1_0 a1_1)) else (impl_SpanMul.j0 k true a0_0 a0_1 a1_0 a1_1))
theorem impl_SpanMul.mono_l : ∀ k, (∀ y0 y1 y2 y3 y4, LeO (impl_SpanMul.j0 k y0 y1 y2 y3 y4) (impl_SpanMul.j0 (k + 1) y0 y1 y2 y3 y4))
 | 0 => fun _ _ _ _ _ r h => by simp [impl_SpanMul.j0] at h
 | k + 1 => by
  have ih0 := impl_SpanMul.mono_l k
  ·intro y0 y1 y2 y3 y4
   unfold impl_SpanMul.j0
   repeat' first
   | (with_reducible exact ih0 _ _ _ _ _)
   | (with_reducible exact LeO.refl _)
   | (with_reducible exact LeO.none _)
   | (with_reducible refine LeO.ite ?_ ?_)
   | (with_reducible refine LeO.bind ?_ (fun _ => ?_))
   | exact ih0 _ _ _ _ _
   | exact LeO.none _
   | refine LeO.ite ?_ ?_
   | refine LeO.bind ?_ (fun _ => ?_)
theorem impl_SpanMul.mono : ∀ a0 a1 a2 a3 k, LeO (impl_SpanMul.f k a0 a1 a2 a3) (impl_SpanMul.f (k + 1) a0 a1 a2 a3) := by
 intro a0 a1 a2 a3 k
 have ih0 := impl_SpanMul.mono_l k
 unfold impl_SpanMul.f
 repeat' first
   | (with_reducible exact ih0 _ _ _ _ _)
   | (with_reducible exact LeO.refl _)
   | (with_reducible exact LeO.none _)
   | (with_reducible refine LeO.ite ?_ ?_)
   | (with_reducible refine LeO.bind ?_ (fun _ => ?_))
   | exact ih0 _ _ _ _ _
   | exact LeO.none _
   | refine LeO.ite ?_ ?_
   | refine LeO.bind ?_ (fun _ => ?_)
set_option maxHeartbeats 8000000 in
set_option maxRecDepth 100000 in
theorem impl_SpanMul.calls (k : Nat) (a0_0 : Int) (a0_1 : Int) (a1_0 : Int) (a1_1 : Int) (r1 : Int) (r2 : Int) (r3 : Bool) (w : World) (h : impl_SpanMul.f k a0_0 a0_1 a1_0 a1_1 = some (r1, r2, r3)) :
  Calls Try.prog 32 #[.agg #[.int .i64 a0_0, .int .i64 a0_1], .agg #[.int .i64 a1_0, .int .i64 a1_1]] w fun e w' => e = .returned (.tuple #[.agg #[.int .i64 r1, .int .i64 r2], .bool r3]) ∧ Below w.heap.size w w' := by
 have hu23 := Try.underlying23
 have HB := Aside0.mk (Below.refl w.heap.size w)
 have H : ((impl_SpanOk.f a0_0 a0_1).bind fun t260 => (if t260 = true then ((impl_SpanOk.f a1_0 a1_1).bind fun t261 => (impl_SpanMul.j0 k (!t261) a0_0 a0_1 a1_0 a1_1)) else (impl_SpanMul.j0 k true a0_0 a0_1 a1_0 a1_1))) = some (r1, r2, r3) := h
 clear h
 have HC3 := Aside0.mk H
 clear H
 go_enter Try.func32, Try.ntmps32
 go_upto_region 1 with (first | ((with_reducible refine gate_dst (N := 2) rfl ?_); refine bE 2 #[.int .i64 a0_0, .int .i64 a0_1] 23 ?_; intro gb257 hg w4 hbox hb; have BK257 := Aside0.mk (hbox); have GE257 := gw hg (h0_ HB); have GW257 := GE257; replace HB := hbb (h0_ HB) hb; clear hb hbox hg) | ((with_reducible refine gate_dst (N := 3) rfl ?_); refine bE 3 #[.int .i64 a1_0, .int .i64 a1_1] 23 ?_; intro gb258 hg w5 hbox hb; have BK258 := Aside0.mk (hbox); have GE258 := gw hg (hs_ HB); have GW258 := GE258; have NB257_258 := nl hg (bk BK257); have NB258_257 := ng hg (bk BK257); replace BK257 := bb (bk BK257) hb; replace HB := hbb (hs_ HB) hb; clear hb hbox hg) | ((with_reducible refine gate_dst (N := 4) rfl ?_); refine bE 4 #[.int .i64 0, .int .i64 0] 23 ?_; intro gb259 hg w6 hbox hb; have BK259 := Aside0.mk (hbox); have GE259 := gw hg (hs_ HB); have GW259 := GE259; have NB257_259 := nl hg (bk BK257); have NB259_257 := ng hg (bk BK257); have NB258_259 := nl hg (bk BK258); have NB259_258 := ng hg (bk BK258); replace BK257 := bb (bk BK257) hb; replace BK258 := bb (bk BK258) hb; replace HB := hbb (hs_ HB) hb; clear hb hbox hg))
 repeat (go_quiet (first | ((with_reducible refine gate_dst (N := 2) rfl ?_); refine bE 2 #[.int .i64 a0_0, .int .i64 a0_1] 23 ?_; intro gb257 hg w4 hbox hb; have BK257 := Aside0.mk (hbox); have GE257 := gw hg (h0_ HB); have GW257 := GE257; replace HB := hbb (h0_ HB) hb; clear hb hbox hg) | ((with_reducible refine gate_dst (N := 3) rfl ?_); refine bE 3 #[.int .i64 a1_0, .int .i64 a1_1] 23 ?_; intro gb258 hg w5 hbox hb; have BK258 := Aside0.mk (hbox); have GE258 := gw hg (hs_ HB); have GW258 := GE258; have NB257_258 := nl hg (bk BK257); have NB258_257 := ng hg (bk BK257); replace BK257 := bb (bk BK257) hb; replace HB := hbb (hs_ HB) hb; clear hb hbox hg) | ((with_reducible refine gate_dst (N := 4) rfl ?_); refine bE 4 #[.int .i64 0, .int .i64 0] 23 ?_; intro gb259 hg w6 hbox hb; have BK259 := Aside0.mk (hbox); have GE259 := gw hg (hs_ HB); have GW259 := GE259; have NB257_259 := nl hg (bk BK257); have NB259_257 := ng hg (bk BK257); have NB258_259 := nl hg (bk BK258); have NB259_258 := ng hg (bk BK258); replace BK257 := bb (bk BK257) hb; replace BK258 := bb (bk BK258) hb; replace HB := hbb (hs_ HB) hb; clear hb hbox hg)); go_upto_region 1 with (first | ((with_reducible refine gate_dst (N := 2) rfl ?_); refine bE 2 #[.int .i64 a0_0, .int .i64 a0_1] 23 ?_; intro gb257 hg w4 hbox hb; have BK257 := Aside0.mk (hbox); have GE257 := gw hg (h0_ HB); have GW257 := GE257; replace HB := hbb (h0_ HB) hb; clear hb hbox hg) | ((with_reducible refine gate_dst (N := 3) rfl ?_); refine bE 3 #[.int .i64 a1_0, .int .i64 a1_1] 23 ?_; intro gb258 hg w5 hbox hb; have BK258 := Aside0.mk (hbox); have GE258 := gw hg (hs_ HB); have GW258 := GE258; have NB257_258 := nl hg (bk BK257); have NB258_257 := ng hg (bk BK257); replace BK257 := bb (bk BK257) hb; replace HB := hbb (hs_ HB) hb; clear hb hbox hg) | ((with_reducible refine gate_dst (N := 4) rfl ?_); refine bE 4 #[.int .i64 0, .int .i64 0] 23 ?_; intro gb259 hg w6 hbox hb; have BK259 := Aside0.mk (hbox); have GE259 := gw hg (hs_ HB); have GW259 := GE259; have NB257_259 := nl hg (bk BK257); have NB259_257 := ng hg (bk BK257); have NB258_259 := nl hg (bk BK258); have NB259_258 := ng hg (bk BK258); replace BK257 := bb (bk BK257) hb; replace BK258 := bb (bk BK258) hb; replace HB := hbb (hs_ HB) hb; clear hb hbox hg)))
 (try simp only [Act.put, List.setIfInBounds_toArray, List.set_cons_zero, List.set_cons_succ])
 go_cut [17] (fun v17 wc => ∃ (kq : Nat) (x17_2 : Bool), v17 = .bool x17_2 ∧ Aside0 (impl_SpanMul.j0 kq x17_2 a0_0 a0_1 a1_0 a1_1 = some (r1, r2, r3)) ∧ Aside0 (kq ≤ k) ∧ Aside0 (wc.heap[gb257]? = some (.cells #[.int .i64 a0_0, .int .i64 a0_1] 23 (0, 0))) ∧ Aside0 (wc.heap[gb258]? = some (.cells #[.int .i64 a1_0, .int .i64 a1_1] 23 (0, 0))) ∧ Aside0 (wc.heap[gb259]? = some (.cells #[.int .i64 0, .int .i64 0] 23 (0, 0))) ∧ Aside0 (Below w.heap.size w wc))
 case first =>
  have H := HC3.out
  clear HC3
  replace H := Option.bind_eq_some_iff.mp H
  obtain ⟨t260, A70, H⟩ := H
  replace H : (if t260 = true then ((impl_SpanOk.f a1_0 a1_1).bind fun t261 => (impl_SpanMul.j0 k (!t261) a0_0 a0_1 a1_0 a1_1)) else (impl_SpanMul.j0 k true a0_0 a0_1 a1_0 a1_1)) = some (r1, r2, r3) := H
  have A7 := Aside0.mk A70
  clear A70
  by_cases c8 : t260 = true
  ·subst c8
   have H1 : ((impl_SpanOk.f a1_0 a1_1).bind fun t261 => (impl_SpanMul.j0 k (!t261) a0_0 a0_1 a1_0 a1_1)) = some (r1, r2, r3) := by rw [if_pos rfl] at H; exact H
   clear H
   have H := H1
   clear H1
   replace H := Option.bind_eq_some_iff.mp H
   obtain ⟨t261, A90, H⟩ := H
   replace H : (impl_SpanMul.j0 k (!t261) a0_0 a0_1 a1_0 a1_1) = some (r1, r2, r3) := H
   have A9 := Aside0.mk A90
   clear A90
   have H' := Aside0.mk H
   clear H
   have hnb10 := NB257_258.out
   have hnc10 := NB258_257.out
   have hnb11 := NB257_259.out
   have hnc11 := NB259_257.out
   obtain ⟨hcz12_0, hcz12_1, hfz12_0, hfz12_1⟩ := cz2 BK257
   go_wp2_with (first | (go_at_call 55; (with_reducible refine (impl_SpanOk.calls a0_0 a0_1 true _ A7.out).mono ?_); rintro e w13 ⟨rfl, hb⟩; replace BK257 := bb (bk BK257) hb; replace BK258 := bb (bk BK258) hb; replace BK259 := bb (bk BK259) hb; replace HB := hbb (hs_ HB) hb; clear hb; have hnb14 := NB258_259.out; have hnc14 := NB259_258.out; obtain ⟨hcz15_0, hcz15_1, hfz15_0, hfz15_1⟩ := cz2 BK258) | (go_at_call 55; (with_reducible refine (impl_SpanOk.calls a1_0 a1_1 t261 _ A9.out).mono ?_); rintro e w16 ⟨rfl, hb⟩; replace BK257 := bb (bk BK257) hb; replace BK258 := bb (bk BK258) hb; replace BK259 := bb (bk BK259) hb; replace HB := hbb (hs_ HB) hb; clear hb))
   repeat (go_quiet (first | (go_at_call 55; (with_reducible refine (impl_SpanOk.calls a0_0 a0_1 true _ A7.out).mono ?_); rintro e w13 ⟨rfl, hb⟩; replace BK257 := bb (bk BK257) hb; replace BK258 := bb (bk BK258) hb; replace BK259 := bb (bk BK259) hb; replace HB := hbb (hs_ HB) hb; clear hb; have hnb14 := NB258_259.out; have hnc14 := NB259_258.out; obtain ⟨hcz15_0, hcz15_1, hfz15_0, hfz15_1⟩ := cz2 BK258) | (go_at_call 55; (with_reducible refine (impl_SpanOk.calls a1_0 a1_1 t261 _ A9.out).mono ?_); rintro e w16 ⟨rfl, hb⟩; replace BK257 := bb (bk BK257) hb; replace BK258 := bb (bk BK258) hb; replace BK259 := bb (bk BK259) hb; replace HB := hbb (hs_ HB) hb; clear hb)); try go_wp2_with (first | (go_at_call 55; (with_reducible refine (impl_SpanOk.calls a0_0 a0_1 true _ A7.out).mono ?_); rintro e w13 ⟨rfl, hb⟩; replace BK257 := bb (bk BK257) hb; replace BK258 := bb (bk BK258) hb; replace BK259 := bb (bk BK259) hb; replace HB := hbb (hs_ HB) hb; clear hb; have hnb14 := NB258_259.out; have hnc14 := NB259_258.out; obtain ⟨hcz15_0, hcz15_1, hfz15_0, hfz15_1⟩ := cz2 BK258) | (go_at_call 55; (with_reducible refine (impl_SpanOk.calls a1_0 a1_1 t261 _ A9.out).mono ?_); rintro e w16 ⟨rfl, hb⟩; replace BK257 := bb (bk BK257) hb; replace BK258 := bb (bk BK258) hb; replace BK259 := bb (bk BK259) hb; replace HB := hbb (hs_ HB) hb; clear hb)))
   go_meet
   case rel => exact ⟨_, (!t261), (by first | rfl | (simp; done) | (simp [*]; done)), H', ⟨by first | omega | exact Nat.le_refl _⟩, ⟨bk BK257⟩, ⟨bk BK258⟩, ⟨bk BK259⟩, ⟨hs_ HB⟩⟩
  ·replace c8 := Bool.eq_false_iff.mpr c8
   subst c8
   have H1 : (impl_SpanMul.j0 k true a0_0 a0_1 a1_0 a1_1) = some (r1, r2, r3) := by rw [if_neg (show ¬ (false = true) by decide)] at H; exact H
   clear H
   have H := H1
   clear H1
   have H' := Aside0.mk H
   clear H
   have hnb17 := NB257_258.out
   have hnc17 := NB258_257.out
   have hnb18 := NB257_259.out
   have hnc18 := NB259_257.out
   obtain ⟨hcz19_0, hcz19_1, hfz19_0, hfz19_1⟩ := cz2 BK257
   go_wp2_with (first | (go_at_call 55; (with_reducible refine (impl_SpanOk.calls a0_0 a0_1 false _ A7.out).mono ?_); rintro e w20 ⟨rfl, hb⟩; replace BK257 := bb (bk BK257) hb; replace BK258 := bb (bk BK258) hb; replace BK259 := bb (bk BK259) hb; replace HB := hbb (hs_ HB) hb; clear hb))
   repeat (go_quiet (first | (go_at_call 55; (with_reducible refine (impl_SpanOk.calls a0_0 a0_1 false _ A7.out).mono ?_); rintro e w20 ⟨rfl, hb⟩; replace BK257 := bb (bk BK257) hb; replace BK258 := bb (bk BK258) hb; replace BK259 := bb (bk BK259) hb; replace HB := hbb (hs_ HB) hb; clear hb)); try go_wp2_with (first | (go_at_call 55; (with_reducible refine (impl_SpanOk.calls a0_0 a0_1 false _ A7.out).mono ?_); rintro e w20 ⟨rfl, hb⟩; replace BK257 := bb (bk BK257) hb; replace BK258 := bb (bk BK258) hb; replace BK259 := bb (bk BK259) hb; replace HB := hbb (hs_ HB) hb; clear hb)))
   go_meet
   case rel => exact ⟨_, (true), (by first | rfl | (simp; done) | (simp [*]; done)), H', ⟨by first | omega | exact Nat.le_refl _⟩, ⟨bk BK257⟩, ⟨bk BK258⟩, ⟨bk BK259⟩, ⟨hs_ HB⟩⟩
 case rest =>
  clear HC3
  try clear c1
  try clear p2
  try clear c3
  try clear c8
  try clear c10
  try clear c11
  try clear c14
  try clear c17
  try clear c18
  try clear hcz12_0
  try clear hcz12_1
  try clear hcz15_0
  try clear hcz15_1
  try clear hcz19_0
  try clear hcz19_1
  try clear hfz12_0
  try clear hfz12_1
  try clear hfz15_0
  try clear hfz15_1
  try clear hfz19_0
  try clear hfz19_1
  obtain ⟨kq, x17_2, rfl, HA, HJ2, BK257, BK258, BK259, HB⟩ := hcut
  cases kq with
  | zero => exact absurd HA.out (by simp [impl_SpanMul.j0])
  | succ kj2 =>
   have H := HA.out
   clear HA
   simp only [impl_SpanMul.j0] at H
   by_cases c21 : x17_2 = true
   ·subst c21
    have H1 : (some (0, 0, false)) = some (r1, r2, r3) := by rw [if_pos rfl] at H; exact H
    clear H
    have H := H1
    clear H1
    simp only [Option.some.injEq, Prod.mk.injEq] at H
    obtain ⟨rfl, rfl, rfl⟩ := H
    have hnb22 := NB259_257.out
    have hnc22 := NB257_259.out
    have hnb23 := NB259_258.out
    have hnc23 := NB258_259.out
    obtain ⟨hcz24_0, hcz24_1, hfz24_0, hfz24_1⟩ := cz2 BK259
    go_wp2
    repeat (go_quiet (fail); try go_wp2)
    refine bodyPost_ret (results_ct rfl _ _ gb259 23 #[.int .i64 0, .int .i64 0] (0, 0) _ rfl (bkp BK259) Try.underlying23 rfl (by kernel_rfl)) rfl ?_
    exact ⟨by first | rfl | (simp [errW_none, errW_some] <;> rfl) | (simp [*, errW_none, errW_some] <;> rfl), hs_ HB⟩
   ·replace c21 := Bool.eq_false_iff.mpr c21
    subst c21
    have H1 : ((impl_down.f (mn (mn (mn (wrap64 (a0_0 * a1_0)) (wrap64 (a0_0 * a1_1))) (wrap64 (a0_1 * a1_0))) (wrap64 (a0_1 * a1_1))) 1000000000).bind fun t262 => ((impl_up.f (mx (mx (mx (wrap64 (a0_0 * a1_0)) (wrap64 (a0_0 * a1_1))) (wrap64 (a0_1 * a1_0))) (wrap64 (a0_1 * a1_1))) 1000000000).bind fun t263 => ((impl_told.f t262 t263).bind fun bt264 => (some (bt264.1, bt264.2.1, bt264.2.2))))) = some (r1, r2, r3) := by rw [if_neg (show ¬ (false = true) by decide)] at H; exact H
    clear H
    have H := H1
    clear H1
    obtain ⟨ji25, hji25⟩ : ∃ j_ : Int, (mn (wrap64 (a0_0 * a1_0)) (wrap64 (a0_0 * a1_1))) = j_ := ⟨_, rfl⟩
    replace H : ((impl_down.f (mn (mn (ji25) (wrap64 (a0_1 * a1_0))) (wrap64 (a0_1 * a1_1))) 1000000000).bind fun t262 => ((impl_up.f (mx (mx (mx (wrap64 (a0_0 * a1_0)) (wrap64 (a0_0 * a1_1))) (wrap64 (a0_1 * a1_0))) (wrap64 (a0_1 * a1_1))) 1000000000).bind fun t263 => ((impl_told.f t262 t263).bind fun bt264 => (some (bt264.1, bt264.2.1, bt264.2.2))))) = some (r1, r2, r3) := by first | (rw [hji25] at H; exact H) | (simp only [hji25] at H ⊢; exact H)
    have hji25_ : (if (wrap64 (a0_0 * a1_1)) < (wrap64 (a0_0 * a1_0)) then (wrap64 (a0_0 * a1_1)) else (wrap64 (a0_0 * a1_0))) = ji25 := hji25
    obtain ⟨ji26, hji26⟩ : ∃ j_ : Int, (mn (ji25) (wrap64 (a0_1 * a1_0))) = j_ := ⟨_, rfl⟩
    replace H : ((impl_down.f (mn (ji26) (wrap64 (a0_1 * a1_1))) 1000000000).bind fun t262 => ((impl_up.f (mx (mx (mx (wrap64 (a0_0 * a1_0)) (wrap64 (a0_0 * a1_1))) (wrap64 (a0_1 * a1_0))) (wrap64 (a0_1 * a1_1))) 1000000000).bind fun t263 => ((impl_told.f t262 t263).bind fun bt264 => (some (bt264.1, bt264.2.1, bt264.2.2))))) = some (r1, r2, r3) := by first | (rw [hji26] at H; exact H) | (simp only [hji26] at H ⊢; exact H)
    have hji26_ : (if (wrap64 (a0_1 * a1_0)) < (ji25) then (wrap64 (a0_1 * a1_0)) else (ji25)) = ji26 := hji26
    obtain ⟨ji27, hji27⟩ : ∃ j_ : Int, (mn (ji26) (wrap64 (a0_1 * a1_1))) = j_ := ⟨_, rfl⟩
    replace H : ((impl_down.f (ji27) 1000000000).bind fun t262 => ((impl_up.f (mx (mx (mx (wrap64 (a0_0 * a1_0)) (wrap64 (a0_0 * a1_1))) (wrap64 (a0_1 * a1_0))) (wrap64 (a0_1 * a1_1))) 1000000000).bind fun t263 => ((impl_told.f t262 t263).bind fun bt264 => (some (bt264.1, bt264.2.1, bt264.2.2))))) = some (r1, r2, r3) := by first | (rw [hji27] at H; exact H) | (simp only [hji27] at H ⊢; exact H)
    have hji27_ : (if (wrap64 (a0_1 * a1_1)) < (ji26) then (wrap64 (a0_1 * a1_1)) else (ji26)) = ji27 := hji27
    replace H := Option.bind_eq_some_iff.mp H
    obtain ⟨t262, A280, H⟩ := H
    replace H : ((impl_up.f (mx (mx (mx (wrap64 (a0_0 * a1_0)) (wrap64 (a0_0 * a1_1))) (wrap64 (a0_1 * a1_0))) (wrap64 (a0_1 * a1_1))) 1000000000).bind fun t263 => ((impl_told.f t262 t263).bind fun bt264 => (some (bt264.1, bt264.2.1, bt264.2.2)))) = some (r1, r2, r3) := H
    have A28 := Aside0.mk A280
    clear A280
    obtain ⟨ji29, hji29⟩ : ∃ j_ : Int, (mx (wrap64 (a0_0 * a1_0)) (wrap64 (a0_0 * a1_1))) = j_ := ⟨_, rfl⟩
    replace H : ((impl_up.f (mx (mx (ji29) (wrap64 (a0_1 * a1_0))) (wrap64 (a0_1 * a1_1))) 1000000000).bind fun t263 => ((impl_told.f t262 t263).bind fun bt264 => (some (bt264.1, bt264.2.1, bt264.2.2)))) = some (r1, r2, r3) := by first | (rw [hji29] at H; exact H) | (simp only [hji29] at H ⊢; exact H)
    (try rw [hji29] at A28)
    have hji29_ : (if (wrap64 (a0_0 * a1_0)) < (wrap64 (a0_0 * a1_1)) then (wrap64 (a0_0 * a1_1)) else (wrap64 (a0_0 * a1_0))) = ji29 := hji29
    obtain ⟨ji30, hji30⟩ : ∃ j_ : Int, (mx (ji29) (wrap64 (a0_1 * a1_0))) = j_ := ⟨_, rfl⟩
    replace H : ((impl_up.f (mx (ji30) (wrap64 (a0_1 * a1_1))) 1000000000).bind fun t263 => ((impl_told.f t262 t263).bind fun bt264 => (some (bt264.1, bt264.2.1, bt264.2.2)))) = some (r1, r2, r3) := by first | (rw [hji30] at H; exact H) | (simp only [hji30] at H ⊢; exact H)
    (try rw [hji30] at A28)
    have hji30_ : (if (ji29) < (wrap64 (a0_1 * a1_0)) then (wrap64 (a0_1 * a1_0)) else (ji29)) = ji30 := hji30
    obtain ⟨ji31, hji31⟩ : ∃ j_ : Int, (mx (ji30) (wrap64 (a0_1 * a1_1))) = j_ := ⟨_, rfl⟩
    replace H : ((impl_up.f (ji31) 1000000000).bind fun t263 => ((impl_told.f t262 t263).bind fun bt264 => (some (bt264.1, bt264.2.1, bt264.2.2)))) = some (r1, r2, r3) := by first | (rw [hji31] at H; exact H) | (simp only [hji31] at H ⊢; exact H)
    (try rw [hji31] at A28)
    have hji31_ : (if (ji30) < (wrap64 (a0_1 * a1_1)) then (wrap64 (a0_1 * a1_1)) else (ji30)) = ji31 := hji31
    replace H := Option.bind_eq_some_iff.mp H
    obtain ⟨t263, A320, H⟩ := H
    replace H : ((impl_told.f t262 t263).bind fun bt264 => (some (bt264.1, bt264.2.1, bt264.2.2))) = some (r1, r2, r3) := H
    have A32 := Aside0.mk A320
    clear A320
    replace H := Option.bind_eq_some_iff.mp H
    obtain ⟨⟨t264, t265, t266⟩, A330, H⟩ := H
    replace H : (some (t264, t265, t266)) = some (r1, r2, r3) := H
    have A33 := Aside0.mk A330
    clear A330
    simp only [Option.some.injEq, Prod.mk.injEq] at H
    obtain ⟨rfl, rfl, rfl⟩ := H
    have hnb34 := NB257_258.out
    have hnc34 := NB258_257.out
    have hnb35 := NB257_259.out
    have hnc35 := NB259_257.out
    obtain ⟨hcz36_0, hcz36_1, hfz36_0, hfz36_1⟩ := cz2 BK257
    have hnb37 := NB258_259.out
    have hnc37 := NB259_258.out
    obtain ⟨hcz38_0, hcz38_1, hfz38_0, hfz38_1⟩ := cz2 BK258
    go_wp2_with (first | (go_at_call 61; (with_reducible refine (impl_down.calls ji27 1000000000 t262 _ A28.out).mono ?_); rintro e w' ⟨rfl, ⟨nd, rfl⟩⟩; (try first | exact ⟨rfl, _, World.drewN_drewN _ _ _⟩ | exact ⟨rfl, _, Eq.trans (World.drewN_drewN _ _ _) (congrArg (World.drewN _) (Nat.add_assoc _ _ _))⟩)) | (go_at_call 62; (with_reducible refine (impl_up.calls ji31 1000000000 t263 _ A32.out).mono ?_); rintro e w' ⟨rfl, ⟨nd, rfl⟩⟩; (try first | exact ⟨rfl, _, World.drewN_drewN _ _ _⟩ | exact ⟨rfl, _, Eq.trans (World.drewN_drewN _ _ _) (congrArg (World.drewN _) (Nat.add_assoc _ _ _))⟩)) | (go_at_call 60; (with_reducible refine (impl_told.calls t262 t263 t264 t265 t266 _ A33.out).mono ?_); rintro e w39 ⟨rfl, hb⟩; replace BK257 := bb (bk BK257) hb; replace BK258 := bb (bk BK258) hb; replace BK259 := bb (bk BK259) hb; replace HB := hbb (hs_ HB) hb; clear hb; obtain ⟨hcz40_0, hcz40_1, hfz40_0, hfz40_1⟩ := cz2 BK259))
    repeat (go_quiet (first | (go_at_call 61; (with_reducible refine (impl_down.calls ji27 1000000000 t262 _ A28.out).mono ?_); rintro e w' ⟨rfl, ⟨nd, rfl⟩⟩; (try first | exact ⟨rfl, _, World.drewN_drewN _ _ _⟩ | exact ⟨rfl, _, Eq.trans (World.drewN_drewN _ _ _) (congrArg (World.drewN _) (Nat.add_assoc _ _ _))⟩)) | (go_at_call 62; (with_reducible refine (impl_up.calls ji31 1000000000 t263 _ A32.out).mono ?_); rintro e w' ⟨rfl, ⟨nd, rfl⟩⟩; (try first | exact ⟨rfl, _, World.drewN_drewN _ _ _⟩ | exact ⟨rfl, _, Eq.trans (World.drewN_drewN _ _ _) (congrArg (World.drewN _) (Nat.add_assoc _ _ _))⟩)) | (go_at_call 60; (with_reducible refine (impl_told.calls t262 t263 t264 t265 t266 _ A33.out).mono ?_); rintro e w39 ⟨rfl, hb⟩; replace BK257 := bb (bk BK257) hb; replace BK258 := bb (bk BK258) hb; replace BK259 := bb (bk BK259) hb; replace HB := hbb (hs_ HB) hb; clear hb; obtain ⟨hcz40_0, hcz40_1, hfz40_0, hfz40_1⟩ := cz2 BK259)); try go_wp2_with (first | (go_at_call 61; (with_reducible refine (impl_down.calls ji27 1000000000 t262 _ A28.out).mono ?_); rintro e w' ⟨rfl, ⟨nd, rfl⟩⟩; (try first | exact ⟨rfl, _, World.drewN_drewN _ _ _⟩ | exact ⟨rfl, _, Eq.trans (World.drewN_drewN _ _ _) (congrArg (World.drewN _) (Nat.add_assoc _ _ _))⟩)) | (go_at_call 62; (with_reducible refine (impl_up.calls ji31 1000000000 t263 _ A32.out).mono ?_); rintro e w' ⟨rfl, ⟨nd, rfl⟩⟩; (try first | exact ⟨rfl, _, World.drewN_drewN _ _ _⟩ | exact ⟨rfl, _, Eq.trans (World.drewN_drewN _ _ _) (congrArg (World.drewN _) (Nat.add_assoc _ _ _))⟩)) | (go_at_call 60; (with_reducible refine (impl_told.calls t262 t263 t264 t265 t266 _ A33.out).mono ?_); rintro e w39 ⟨rfl, hb⟩; replace BK257 := bb (bk BK257) hb; replace BK258 := bb (bk BK258) hb; replace BK259 := bb (bk BK259) hb; replace HB := hbb (hs_ HB) hb; clear hb; obtain ⟨hcz40_0, hcz40_1, hfz40_0, hfz40_1⟩ := cz2 BK259)))
    refine bodyPost_ret (results_ct rfl _ _ gb259 23 #[.int .i64 t264, .int .i64 t265] (0, 0) _ rfl (bkp BK259) Try.underlying23 rfl (by kernel_rfl)) rfl ?_
    exact ⟨by first | rfl | (simp [errW_none, errW_some] <;> rfl) | (simp only [← hji25, ← hji26, ← hji27, ← hji29, ← hji30, ← hji31]; first | rfl | (simp [errW_none, errW_some] <;> rfl)) | (simp [*, errW_none, errW_some] <;> rfl), hs_ HB⟩


/-! ### impl_SpanAdd: function 43 -/
def impl_SpanAdd.f (a0_0 : Int) (a0_1 : Int) (a1_0 : Int) (a1_1 : Int) : Option (Int × Int × Bool) := (impl_SpanOk.f a0_0 a0_1).bind fun t252 => (if t252 = true then ((impl_SpanOk.f a1_0 a1_1).bind fun t253 => (if t253 = true then ((impl_told.f (wrap64 (a0_0 + a1_0)) (wrap64 (a0_1 + a1_1))).bind fun bt254 => (some (bt254.1, bt254.2.1, bt254.2.2))) else (some (0, 0, false)))) else (some (0, 0, false)))
set_option maxHeartbeats 8000000 in
set_option maxRecDepth 100000 in
theorem impl_SpanAdd.calls (a0_0 : Int) (a0_1 : Int) (a1_0 : Int) (a1_1 : Int) (r1 : Int) (r2 : Int) (r3 : Bool) (w : World) (h : impl_SpanAdd.f a0_0 a0_1 a1_0 a1_1 = some (r1, r2, r3)) :
  Calls Try.prog 43 #[.agg #[.int .i64 a0_0, .int .i64 a0_1], .agg #[.int .i64 a1_0, .int .i64 a1_1]] w fun e w' => e = .returned (.tuple #[.agg #[.int .i64 r1, .int .i64 r2], .bool r3]) ∧ Below w.heap.size w w' := by
 have hu23 := Try.underlying23
 have HB := Aside0.mk (Below.refl w.heap.size w)
 have H : ((impl_SpanOk.f a0_0 a0_1).bind fun t252 => (if t252 = true then ((impl_SpanOk.f a1_0 a1_1).bind fun t253 => (if t253 = true then ((impl_told.f (wrap64 (a0_0 + a1_0)) (wrap64 (a0_1 + a1_1))).bind fun bt254 => (some (bt254.1, bt254.2.1, bt254.2.2))) else (some (0, 0, false)))) else (some (0, 0, false)))) = some (r1, r2, r3) := h
 clear h
 replace H := Option.bind_eq_some_iff.mp H
 obtain ⟨t252, A30, H⟩ := H
 replace H : (if t252 = true then ((impl_SpanOk.f a1_0 a1_1).bind fun t253 => (if t253 = true then ((impl_told.f (wrap64 (a0_0 + a1_0)) (wrap64 (a0_1 + a1_1))).bind fun bt254 => (some (bt254.1, bt254.2.1, bt254.2.2))) else (some (0, 0, false)))) else (some (0, 0, false))) = some (r1, r2, r3) := H
 have A3 := Aside0.mk A30
 clear A30
 by_cases c4 : t252 = true
 ·subst c4
  have H1 : ((impl_SpanOk.f a1_0 a1_1).bind fun t253 => (if t253 = true then ((impl_told.f (wrap64 (a0_0 + a1_0)) (wrap64 (a0_1 + a1_1))).bind fun bt254 => (some (bt254.1, bt254.2.1, bt254.2.2))) else (some (0, 0, false)))) = some (r1, r2, r3) := by rw [if_pos rfl] at H; exact H
  clear H
  have H := H1
  clear H1
  replace H := Option.bind_eq_some_iff.mp H
  obtain ⟨t253, A50, H⟩ := H
  replace H : (if t253 = true then ((impl_told.f (wrap64 (a0_0 + a1_0)) (wrap64 (a0_1 + a1_1))).bind fun bt254 => (some (bt254.1, bt254.2.1, bt254.2.2))) else (some (0, 0, false))) = some (r1, r2, r3) := H
  have A5 := Aside0.mk A50
  clear A50
  by_cases c6 : t253 = true
  ·subst c6
   have H1 : ((impl_told.f (wrap64 (a0_0 + a1_0)) (wrap64 (a0_1 + a1_1))).bind fun bt254 => (some (bt254.1, bt254.2.1, bt254.2.2))) = some (r1, r2, r3) := by rw [if_pos rfl] at H; exact H
   clear H
   have H := H1
   clear H1
   replace H := Option.bind_eq_some_iff.mp H
   obtain ⟨⟨t254, t255, t256⟩, A70, H⟩ := H
   replace H : (some (t254, t255, t256)) = some (r1, r2, r3) := H
   have A7 := Aside0.mk A70
   clear A70
   simp only [Option.some.injEq, Prod.mk.injEq] at H
   obtain ⟨rfl, rfl, rfl⟩ := H
   go_enter Try.func43, Try.ntmps43
   go_wp2_with (first | ((with_reducible refine gate_dst (N := 2) rfl ?_); refine bE 2 #[.int .i64 a0_0, .int .i64 a0_1] 23 ?_; intro gb249 hg w8 hbox hb; have BK249 := Aside0.mk (hbox); have GE249 := gw hg (h0_ HB); have GW249 := GE249; replace HB := hbb (h0_ HB) hb; clear hb hbox hg) | ((with_reducible refine gate_dst (N := 3) rfl ?_); refine bE 3 #[.int .i64 a1_0, .int .i64 a1_1] 23 ?_; intro gb250 hg w9 hbox hb; have BK250 := Aside0.mk (hbox); have GE250 := gw hg (hs_ HB); have GW250 := GE250; have NB249_250 := nl hg (bk BK249); have NB250_249 := ng hg (bk BK249); replace BK249 := bb (bk BK249) hb; replace HB := hbb (hs_ HB) hb; clear hb hbox hg) | ((with_reducible refine gate_dst (N := 4) rfl ?_); refine bE 4 #[.int .i64 0, .int .i64 0] 23 ?_; intro gb251 hg w10 hbox hb; have BK251 := Aside0.mk (hbox); have GE251 := gw hg (hs_ HB); have GW251 := GE251; have NB249_251 := nl hg (bk BK249); have NB251_249 := ng hg (bk BK249); have NB250_251 := nl hg (bk BK250); have NB251_250 := ng hg (bk BK250); replace BK249 := bb (bk BK249) hb; replace BK250 := bb (bk BK250) hb; replace HB := hbb (hs_ HB) hb; clear hb hbox hg; have hnb11 := NB249_250.out; have hnc11 := NB250_249.out; have hnb12 := NB249_251.out; have hnc12 := NB251_249.out; obtain ⟨hcz13_0, hcz13_1, hfz13_0, hfz13_1⟩ := cz2 BK249) | ((with_reducible refine gate_callee (f := 55) rfl ?_); refine gL 7 Try.func55 #[.agg #[.int .i64 a0_0, .int .i64 a0_1]] ?_; (with_reducible refine (impl_SpanOk.calls a0_0 a0_1 true _ A3.out).mono ?_); rintro e w14 ⟨rfl, hb⟩; refine ⟨_, rfl, ?_⟩; replace BK249 := bb (bk BK249) hb; replace BK250 := bb (bk BK250) hb; replace BK251 := bb (bk BK251) hb; replace HB := hbb (hs_ HB) hb; clear hb; have hnb15 := NB250_251.out; have hnc15 := NB251_250.out; obtain ⟨hcz16_0, hcz16_1, hfz16_0, hfz16_1⟩ := cz2 BK250) | (go_at_call 55; (with_reducible refine (impl_SpanOk.calls a1_0 a1_1 true _ A5.out).mono ?_); rintro e w17 ⟨rfl, hb⟩; replace BK249 := bb (bk BK249) hb; replace BK250 := bb (bk BK250) hb; replace BK251 := bb (bk BK251) hb; replace HB := hbb (hs_ HB) hb; clear hb; obtain ⟨hcz18_0, hcz18_1, hfz18_0, hfz18_1⟩ := cz2 BK249; obtain ⟨hcz19_0, hcz19_1, hfz19_0, hfz19_1⟩ := cz2 BK250) | ((with_reducible refine gate_callee (f := 60) rfl ?_); refine gL 26 Try.func60 #[.agg #[.int .i64 (wrap64 (a0_0 + a1_0)), .int .i64 (wrap64 (a0_1 + a1_1))]] ?_; (with_reducible refine (impl_told.calls (wrap64 (a0_0 + a1_0)) (wrap64 (a0_1 + a1_1)) t254 t255 t256 _ A7.out).mono ?_); rintro e w20 ⟨rfl, hb⟩; refine ⟨_, rfl, ?_⟩; replace BK249 := bb (bk BK249) hb; replace BK250 := bb (bk BK250) hb; replace BK251 := bb (bk BK251) hb; replace HB := hbb (hs_ HB) hb; clear hb; obtain ⟨hcz21_0, hcz21_1, hfz21_0, hfz21_1⟩ := cz2 BK251))
   refine bodyPost_ret (results_ct rfl _ _ gb251 23 #[.int .i64 t254, .int .i64 t255] (0, 0) _ rfl (bkp BK251) Try.underlying23 rfl (by kernel_rfl)) rfl ?_
   exact ⟨by first | rfl | (simp [errW_none, errW_some] <;> rfl) | (simp [*, errW_none, errW_some] <;> rfl), hs_ HB⟩
  ·replace c6 := Bool.eq_false_iff.mpr c6
   subst c6
   have H1 : (some (0, 0, false)) = some (r1, r2, r3) := by rw [if_neg (show ¬ (false = true) by decide)] at H; exact H
   clear H
   have H := H1
   clear H1
   simp only [Option.some.injEq, Prod.mk.injEq] at H
   obtain ⟨rfl, rfl, rfl⟩ := H
   go_enter Try.func43, Try.ntmps43
   go_wp2_with (first | ((with_reducible refine gate_dst (N := 2) rfl ?_); refine bE 2 #[.int .i64 a0_0, .int .i64 a0_1] 23 ?_; intro gb249 hg w22 hbox hb; have BK249 := Aside0.mk (hbox); have GE249 := gw hg (h0_ HB); have GW249 := GE249; replace HB := hbb (h0_ HB) hb; clear hb hbox hg) | ((with_reducible refine gate_dst (N := 3) rfl ?_); refine bE 3 #[.int .i64 a1_0, .int .i64 a1_1] 23 ?_; intro gb250 hg w23 hbox hb; have BK250 := Aside0.mk (hbox); have GE250 := gw hg (hs_ HB); have GW250 := GE250; have NB249_250 := nl hg (bk BK249); have NB250_249 := ng hg (bk BK249); replace BK249 := bb (bk BK249) hb; replace HB := hbb (hs_ HB) hb; clear hb hbox hg) | ((with_reducible refine gate_dst (N := 4) rfl ?_); refine bE 4 #[.int .i64 0, .int .i64 0] 23 ?_; intro gb251 hg w24 hbox hb; have BK251 := Aside0.mk (hbox); have GE251 := gw hg (hs_ HB); have GW251 := GE251; have NB249_251 := nl hg (bk BK249); have NB251_249 := ng hg (bk BK249); have NB250_251 := nl hg (bk BK250); have NB251_250 := ng hg (bk BK250); replace BK249 := bb (bk BK249) hb; replace BK250 := bb (bk BK250) hb; replace HB := hbb (hs_ HB) hb; clear hb hbox hg; have hnb25 := NB249_250.out; have hnc25 := NB250_249.out; have hnb26 := NB249_251.out; have hnc26 := NB251_249.out; obtain ⟨hcz27_0, hcz27_1, hfz27_0, hfz27_1⟩ := cz2 BK249) | ((with_reducible refine gate_callee (f := 55) rfl ?_); refine gL 7 Try.func55 #[.agg #[.int .i64 a0_0, .int .i64 a0_1]] ?_; (with_reducible refine (impl_SpanOk.calls a0_0 a0_1 true _ A3.out).mono ?_); rintro e w28 ⟨rfl, hb⟩; refine ⟨_, rfl, ?_⟩; replace BK249 := bb (bk BK249) hb; replace BK250 := bb (bk BK250) hb; replace BK251 := bb (bk BK251) hb; replace HB := hbb (hs_ HB) hb; clear hb; have hnb29 := NB250_251.out; have hnc29 := NB251_250.out; obtain ⟨hcz30_0, hcz30_1, hfz30_0, hfz30_1⟩ := cz2 BK250) | (go_at_call 55; (with_reducible refine (impl_SpanOk.calls a1_0 a1_1 false _ A5.out).mono ?_); rintro e w31 ⟨rfl, hb⟩; replace BK249 := bb (bk BK249) hb; replace BK250 := bb (bk BK250) hb; replace BK251 := bb (bk BK251) hb; replace HB := hbb (hs_ HB) hb; clear hb; obtain ⟨hcz32_0, hcz32_1, hfz32_0, hfz32_1⟩ := cz2 BK251))
   refine bodyPost_ret (results_ct rfl _ _ gb251 23 #[.int .i64 0, .int .i64 0] (0, 0) _ rfl (bkp BK251) Try.underlying23 rfl (by kernel_rfl)) rfl ?_
   exact ⟨by first | rfl | (simp [errW_none, errW_some] <;> rfl) | (simp [*, errW_none, errW_some] <;> rfl), hs_ HB⟩
 ·replace c4 := Bool.eq_false_iff.mpr c4
  subst c4
  have H1 : (some (0, 0, false)) = some (r1, r2, r3) := by rw [if_neg (show ¬ (false = true) by decide)] at H; exact H
  clear H
  have H := H1
  clear H1
  simp only [Option.some.injEq, Prod.mk.injEq] at H
  obtain ⟨rfl, rfl, rfl⟩ := H
  go_enter Try.func43, Try.ntmps43
  go_wp2_with (first | ((with_reducible refine gate_dst (N := 2) rfl ?_); refine bE 2 #[.int .i64 a0_0, .int .i64 a0_1] 23 ?_; intro gb249 hg w33 hbox hb; have BK249 := Aside0.mk (hbox); have GE249 := gw hg (h0_ HB); have GW249 := GE249; replace HB := hbb (h0_ HB) hb; clear hb hbox hg) | ((with_reducible refine gate_dst (N := 3) rfl ?_); refine bE 3 #[.int .i64 a1_0, .int .i64 a1_1] 23 ?_; intro gb250 hg w34 hbox hb; have BK250 := Aside0.mk (hbox); have GE250 := gw hg (hs_ HB); have GW250 := GE250; have NB249_250 := nl hg (bk BK249); have NB250_249 := ng hg (bk BK249); replace BK249 := bb (bk BK249) hb; replace HB := hbb (hs_ HB) hb; clear hb hbox hg) | ((with_reducible refine gate_dst (N := 4) rfl ?_); refine bE 4 #[.int .i64 0, .int .i64 0] 23 ?_; intro gb251 hg w35 hbox hb; have BK251 := Aside0.mk (hbox); have GE251 := gw hg (hs_ HB); have GW251 := GE251; have NB249_251 := nl hg (bk BK249); have NB251_249 := ng hg (bk BK249); have NB250_251 := nl hg (bk BK250); have NB251_250 := ng hg (bk BK250); replace BK249 := bb (bk BK249) hb; replace BK250 := bb (bk BK250) hb; replace HB := hbb (hs_ HB) hb; clear hb hbox hg; have hnb36 := NB249_250.out; have hnc36 := NB250_249.out; have hnb37 := NB249_251.out; have hnc37 := NB251_249.out; obtain ⟨hcz38_0, hcz38_1, hfz38_0, hfz38_1⟩ := cz2 BK249) | ((with_reducible refine gate_callee (f := 55) rfl ?_); refine gL 7 Try.func55 #[.agg #[.int .i64 a0_0, .int .i64 a0_1]] ?_; (with_reducible refine (impl_SpanOk.calls a0_0 a0_1 false _ A3.out).mono ?_); rintro e w39 ⟨rfl, hb⟩; refine ⟨_, rfl, ?_⟩; replace BK249 := bb (bk BK249) hb; replace BK250 := bb (bk BK250) hb; replace BK251 := bb (bk BK251) hb; replace HB := hbb (hs_ HB) hb; clear hb; have hnb40 := NB251_250.out; have hnc40 := NB250_251.out; obtain ⟨hcz41_0, hcz41_1, hfz41_0, hfz41_1⟩ := cz2 BK251))
  refine bodyPost_ret (results_ct rfl _ _ gb251 23 #[.int .i64 0, .int .i64 0] (0, 0) _ rfl (bkp BK251) Try.underlying23 rfl (by kernel_rfl)) rfl ?_
  exact ⟨by first | rfl | (simp [errW_none, errW_some] <;> rfl) | (simp [*, errW_none, errW_some] <;> rfl), hs_ HB⟩


/-! ### impl_SpanSub: function 45 -/
def impl_SpanSub.f (a0_0 : Int) (a0_1 : Int) (a1_0 : Int) (a1_1 : Int) : Option (Int × Int × Bool) := (impl_SpanOk.f a1_0 a1_1).bind fun t276 => (if t276 = true then ((impl_SpanNeg.f a1_0 a1_1).bind fun bt277 => ((impl_SpanAdd.f a0_0 a0_1 bt277.1 bt277.2).bind fun bt279 => (some (bt279.1, bt279.2.1, bt279.2.2)))) else (some (0, 0, false)))
def impl_SpanSub.T3 : Bool × List (List Nat × List Nat) := (true, [([], []), ([], []), ([1], [1]), ([0, 2, 2], [0, 2]), ([3], [3]), ([3], [3]), ([4, 3, 0, 1, 2, 3, 4, 5], [4]), ([5, 6, 0, 1, 2, 3, 4, 5, 6], [5])])
def impl_SpanSub.B3 : List Nat := [0, 0, 2, 7, 15, 15, 63, 127]
theorem impl_SpanSub.tab3 : rtab .any (opsOf Try.f45 3) = impl_SpanSub.T3 := by kernel_rfl
theorem impl_SpanSub.bits3 : waitsOk impl_SpanSub.T3.2 impl_SpanSub.B3 = true := by kernel_rfl
set_option maxHeartbeats 8000000 in
set_option maxRecDepth 100000 in
theorem impl_SpanSub.calls (a0_0 : Int) (a0_1 : Int) (a1_0 : Int) (a1_1 : Int) (r1 : Int) (r2 : Int) (r3 : Bool) (w : World) (h : impl_SpanSub.f a0_0 a0_1 a1_0 a1_1 = some (r1, r2, r3)) :
  Calls Try.prog 45 #[.agg #[.int .i64 a0_0, .int .i64 a0_1], .agg #[.int .i64 a1_0, .int .i64 a1_1]] w fun e w' => e = .returned (.tuple #[.agg #[.int .i64 r1, .int .i64 r2], .bool r3]) ∧ Below w.heap.size w w' := by
 have hu23 := Try.underlying23
 have HB := Aside0.mk (Below.refl w.heap.size w)
 have H : ((impl_SpanOk.f a1_0 a1_1).bind fun t276 => (if t276 = true then ((impl_SpanNeg.f a1_0 a1_1).bind fun bt277 => ((impl_SpanAdd.f a0_0 a0_1 bt277.1 bt277.2).bind fun bt279 => (some (bt279.1, bt279.2.1, bt279.2.2)))) else (some (0, 0, false)))) = some (r1, r2, r3) := h
 clear h
 replace H := Option.bind_eq_some_iff.mp H
 obtain ⟨t276, A30, H⟩ := H
 replace H : (if t276 = true then ((impl_SpanNeg.f a1_0 a1_1).bind fun bt277 => ((impl_SpanAdd.f a0_0 a0_1 bt277.1 bt277.2).bind fun bt279 => (some (bt279.1, bt279.2.1, bt279.2.2)))) else (some (0, 0, false))) = some (r1, r2, r3) := H
 have A3 := Aside0.mk A30
 clear A30
 by_cases c4 : t276 = true
 ·subst c4
  have H1 : ((impl_SpanNeg.f a1_0 a1_1).bind fun bt277 => ((impl_SpanAdd.f a0_0 a0_1 bt277.1 bt277.2).bind fun bt279 => (some (bt279.1, bt279.2.1, bt279.2.2)))) = some (r1, r2, r3) := by rw [if_pos rfl] at H; exact H
  clear H
  have H := H1
  clear H1
  replace H := Option.bind_eq_some_iff.mp H
  obtain ⟨⟨t277, t278⟩, A50, H⟩ := H
  replace H : ((impl_SpanAdd.f a0_0 a0_1 t277 t278).bind fun bt279 => (some (bt279.1, bt279.2.1, bt279.2.2))) = some (r1, r2, r3) := H
  have A5 := Aside0.mk A50
  clear A50
  replace H := Option.bind_eq_some_iff.mp H
  obtain ⟨⟨t279, t280, t281⟩, A60, H⟩ := H
  replace H : (some (t279, t280, t281)) = some (r1, r2, r3) := H
  have A6 := Aside0.mk A60
  clear A60
  simp only [Option.some.injEq, Prod.mk.injEq] at H
  obtain ⟨rfl, rfl, rfl⟩ := H
  go_enter Try.func45, Try.ntmps45
  try go_wp2_with (first | ((with_reducible refine gate_dst (N := 2) rfl ?_); refine bE 2 #[.int .i64 a0_0, .int .i64 a0_1] 23 ?_; intro gb273 hg w7 hbox hb; have BK273 := Aside0.mk (hbox); have GE273 := gw hg (h0_ HB); have GW273 := GE273; replace HB := hbb (h0_ HB) hb; clear hb hbox hg) | ((with_reducible refine gate_dst (N := 3) rfl ?_); refine bE 3 #[.int .i64 a1_0, .int .i64 a1_1] 23 ?_; intro gb274 hg w8 hbox hb; have BK274 := Aside0.mk (hbox); have GE274 := gw hg (hs_ HB); have GW274 := GE274; have NB273_274 := nl hg (bk BK273); have NB274_273 := ng hg (bk BK273); replace BK273 := bb (bk BK273) hb; replace HB := hbb (hs_ HB) hb; clear hb hbox hg) | ((with_reducible refine gate_dst (N := 4) rfl ?_); refine bE 4 #[.int .i64 0, .int .i64 0] 23 ?_; intro gb275 hg w9 hbox hb; have BK275 := Aside0.mk (hbox); have GE275 := gw hg (hs_ HB); have GW275 := GE275; have NB273_275 := nl hg (bk BK273); have NB275_273 := ng hg (bk BK273); have NB274_275 := nl hg (bk BK274); have NB275_274 := ng hg (bk BK274); replace BK273 := bb (bk BK273) hb; replace BK274 := bb (bk BK274) hb; replace HB := hbb (hs_ HB) hb; clear hb hbox hg; have hnb10 := NB274_273.out; have hnc10 := NB273_274.out; have hnb11 := NB274_275.out; have hnc11 := NB275_274.out; obtain ⟨hcz12_0, hcz12_1, hfz12_0, hfz12_1⟩ := cz2 BK274) | ((with_reducible refine gate_callee (f := 55) rfl ?_); refine gL 7 Try.func55 #[.agg #[.int .i64 a1_0, .int .i64 a1_1]] ?_; (with_reducible refine (impl_SpanOk.calls a1_0 a1_1 true _ A3.out).mono ?_); rintro e w13 ⟨rfl, hb⟩; refine ⟨_, rfl, ?_⟩; replace BK273 := bb (bk BK273) hb; replace BK274 := bb (bk BK274) hb; replace BK275 := bb (bk BK275) hb; replace HB := hbb (hs_ HB) hb; clear hb))
  replace BK273 := Aside0.mk (blk_drew BK273.out)
  replace BK274 := Aside0.mk (blk_drew BK274.out)
  replace BK275 := Aside0.mk (blk_drew BK275.out)
  replace HB := Aside0.mk (below_drew1 HB.out)
  refine start_ (n := 8) (S := fun w' => w'.cell? ⟨gb273, 0, none⟩ = some (.int .i64 a0_0) ∧ w'.cell? ⟨gb273, 1, none⟩ = some (.int .i64 a0_1) ∧ w'.cell? ⟨gb274, 0, none⟩ = some (.int .i64 a1_0) ∧ w'.cell? ⟨gb274, 1, none⟩ = some (.int .i64 a1_1)) (ds := []) #[false, false, false, false, false, false, false, false] (by kernel_rfl) rfl rfl ⟨(blk_cell BK273.out 0).trans rfl, (blk_cell BK273.out 1).trans rfl, (blk_cell BK274.out 0).trans rfl, (blk_cell BK274.out 1).trans rfl⟩ (fun hHeld => ?_); refine with_tabW impl_SpanSub.tab3 impl_SpanSub.bits3 (fun HT_ HW_ => ?_)
  generalize w13.drew = w14 at BK273 BK274 BK275 HB hHeld ⊢
  refine take_ (i := 0) (N := some 10) (v := ?_) (a' := ?_) #[true, false, false, false, false, false, false, false] rfl rfl (take_ofW HT_.out HW_.out (by kernel_rfl)) (fun _ _ _ h => h) (Or.inl ⟨by rfl, ?_⟩) hHeld ?_ ?_
  rotate_left
  ·rintro w' ⟨s0, s1, s2, s3⟩
   go_simp
   with_reducible rfl
  rotate_left
  ·simp only [Act.put, List.setIfInBounds_toArray, List.set_cons_zero, List.set_cons_succ, i64_w, i32_w]
   rfl
  refine take_ (i := 1) (N := some 11) (v := ?_) (a' := ?_) #[true, true, false, false, false, false, false, false] rfl rfl (take_ofW HT_.out HW_.out (by kernel_rfl)) (fun _ _ _ h => h) (Or.inl ⟨by rfl, ?_⟩) hHeld ?_ ?_
  rotate_left
  ·rintro w' ⟨s0, s1, s2, s3⟩
   go_simp
   with_reducible rfl
  rotate_left
  ·simp only [Act.put, List.setIfInBounds_toArray, List.set_cons_zero, List.set_cons_succ, i64_w, i32_w]
   rfl
  refine one_ (i := 2) (N := some 12) #[true, true, true, false, false, false, false, false] rfl rfl (one_of HT_.out (by kernel_rfl)) (by decide) (fun K hK => ?_)
  refine gS Try.func27 #[.agg #[.int .i64 a1_0, .int .i64 a1_1]] ?_
  with_reducible refine (impl_SpanNeg.calls a1_0 a1_1 t277 t278 _ A5.out).mono ?_
  rintro e w15 ⟨rfl, hb⟩
  refine ⟨_, rfl, ?_⟩
  replace BK273 := bb (bk BK273) hb
  replace BK274 := bb (bk BK274) hb
  replace BK275 := bb (bk BK275) hb
  replace HB := hbb (hs_ HB) hb
  clear hb
  refine hK.out _ _ ⟨(blk_cell BK273.out 0).trans rfl, (blk_cell BK273.out 1).trans rfl, (blk_cell BK274.out 0).trans rfl, (blk_cell BK274.out 1).trans rfl⟩ (fun hHeld => ?_)
  clear hK K
  refine norm_ (a' := ?_) ?_ ?_
  rotate_left
  ·show Act.put _ (some 12) _ = _
   simp only [Act.put, List.setIfInBounds_toArray, List.set_cons_zero, List.set_cons_succ, i64_w, i32_w]
   rfl
  refine one_ (i := 3) (N := some 13) #[true, true, true, true, false, false, false, false] rfl rfl (one_of HT_.out (by kernel_rfl)) (by decide) (fun K hK => ?_)
  refine gS Try.func43 #[.agg #[.int .i64 a0_0, .int .i64 a0_1], .agg #[.int .i64 t277, .int .i64 t278]] ?_
  with_reducible refine (impl_SpanAdd.calls a0_0 a0_1 t277 t278 t279 t280 t281 _ A6.out).mono ?_
  rintro e w16 ⟨rfl, hb⟩
  refine ⟨_, rfl, ?_⟩
  replace BK273 := bb (bk BK273) hb
  replace BK274 := bb (bk BK274) hb
  replace BK275 := bb (bk BK275) hb
  replace HB := hbb (hs_ HB) hb
  clear hb
  refine hK.out _ _ ⟨(blk_cell BK273.out 0).trans rfl, (blk_cell BK273.out 1).trans rfl, (blk_cell BK274.out 0).trans rfl, (blk_cell BK274.out 1).trans rfl⟩ (fun hHeld => ?_)
  clear hK K
  refine norm_ (a' := ?_) ?_ ?_
  rotate_left
  ·show Act.put _ (some 13) _ = _
   simp only [Act.put, List.setIfInBounds_toArray, List.set_cons_zero, List.set_cons_succ, i64_w, i32_w]
   rfl
  refine pure_ (i := 4) (N := some 14) (v := ?_) (a' := ?_) #[true, true, true, true, true, false, false, false] rfl rfl (any_of HT_.out (by kernel_rfl)) (fun _ _ _ h => h) (Or.inl ⟨by rfl, ?_⟩) ?_ ?_
  rotate_left
  ·intro w'
   go_simp
   with_reducible rfl
  rotate_left
  ·simp only [Act.put, List.setIfInBounds_toArray, List.set_cons_zero, List.set_cons_succ, i64_w, i32_w]
   rfl
  refine pure_ (i := 5) (N := some 15) (v := ?_) (a' := ?_) #[true, true, true, true, true, true, false, false] rfl rfl (any_of HT_.out (by kernel_rfl)) (fun _ _ _ h => h) (Or.inl ⟨by rfl, ?_⟩) ?_ ?_
  rotate_left
  ·intro w'
   go_simp
   with_reducible rfl
  rotate_left
  ·simp only [Act.put, List.setIfInBounds_toArray, List.set_cons_zero, List.set_cons_succ, i64_w, i32_w]
   rfl
  refine one_ (i := 6) (N := none) #[true, true, true, true, true, true, true, false] rfl rfl (one_of HT_.out (by kernel_rfl)) (by decide) (fun K hK => ?_)
  have hs17 : w16.cell? ⟨gb275, 0, none⟩ = some (.int .i64 0) := (blk_cell BK275.out 0).trans rfl
  have hfs17 := blk_frozen BK275.out 0
  have hns17_0 := NB273_275.out
  have hns17_1 := NB274_275.out
  have hms17_0 := NB275_273.out
  have hms17_1 := NB275_274.out
  have hs18 : w16.cell? ⟨gb275, 1, none⟩ = some (.int .i64 0) := (blk_cell BK275.out 1).trans rfl
  have hfs18 := blk_frozen BK275.out 1
  have hns18_0 := NB273_275.out
  have hns18_1 := NB274_275.out
  have hms18_0 := NB275_273.out
  have hms18_1 := NB275_274.out
  refine skip_ (w1 := ?_) (by rfl) rfl ?_ ?_
  rotate_left
  ·go_simp
   rfl
  refine hK.out _ _ ⟨((cell_far (p := ⟨gb275, _, none⟩) NB273_275.out _).trans (((cell_far (p := ⟨gb275, _, none⟩) NB273_275.out _).trans (hHeld.1)))), ((cell_far (p := ⟨gb275, _, none⟩) NB273_275.out _).trans (((cell_far (p := ⟨gb275, _, none⟩) NB273_275.out _).trans (hHeld.2.1)))), ((cell_far (p := ⟨gb275, _, none⟩) NB274_275.out _).trans (((cell_far (p := ⟨gb275, _, none⟩) NB274_275.out _).trans (hHeld.2.2.1)))), ((cell_far (p := ⟨gb275, _, none⟩) NB274_275.out _).trans (((cell_far (p := ⟨gb275, _, none⟩) NB274_275.out _).trans (hHeld.2.2.2))))⟩ (fun hHeld => ?_)
  clear hK K
  refine pure_ (i := 7) (N := some 5) (v := ?_) (a' := ?_) #[true, true, true, true, true, true, true, true] rfl rfl (any_of HT_.out (by kernel_rfl)) (fun _ _ _ h => h) (Or.inl ⟨by rfl, ?_⟩) ?_ ?_
  rotate_left
  ·intro w'
   go_simp
   with_reducible rfl
  rotate_left
  ·simp only [Act.put, List.setIfInBounds_toArray, List.set_cons_zero, List.set_cons_succ, i64_w, i32_w]
   rfl
  refine done_ (done_of HT_.out (by kernel_rfl)) ?_
  try go_wp2
  refine bodyPost_ret (results_ct rfl _ _ gb275 23 #[.int .i64 t279, .int .i64 t280] (0, 0) _ rfl (bkp BK275) Try.underlying23 rfl (by kernel_rfl)) rfl ?_
  exact ⟨by first | rfl | (simp [errW_none, errW_some] <;> rfl) | (simp [*, errW_none, errW_some] <;> rfl), hs_ HB⟩
 ·replace c4 := Bool.eq_false_iff.mpr c4
  subst c4
  have H1 : (some (0, 0, false)) = some (r1, r2, r3) := by rw [if_neg (show ¬ (false = true) by decide)] at H; exact H
  clear H
  have H := H1
  clear H1
  simp only [Option.some.injEq, Prod.mk.injEq] at H
  obtain ⟨rfl, rfl, rfl⟩ := H
  go_enter Try.func45, Try.ntmps45
  go_wp2_with (first | ((with_reducible refine gate_dst (N := 2) rfl ?_); refine bE 2 #[.int .i64 a0_0, .int .i64 a0_1] 23 ?_; intro gb273 hg w19 hbox hb; have BK273 := Aside0.mk (hbox); have GE273 := gw hg (h0_ HB); have GW273 := GE273; replace HB := hbb (h0_ HB) hb; clear hb hbox hg) | ((with_reducible refine gate_dst (N := 3) rfl ?_); refine bE 3 #[.int .i64 a1_0, .int .i64 a1_1] 23 ?_; intro gb274 hg w20 hbox hb; have BK274 := Aside0.mk (hbox); have GE274 := gw hg (hs_ HB); have GW274 := GE274; have NB273_274 := nl hg (bk BK273); have NB274_273 := ng hg (bk BK273); replace BK273 := bb (bk BK273) hb; replace HB := hbb (hs_ HB) hb; clear hb hbox hg) | ((with_reducible refine gate_dst (N := 4) rfl ?_); refine bE 4 #[.int .i64 0, .int .i64 0] 23 ?_; intro gb275 hg w21 hbox hb; have BK275 := Aside0.mk (hbox); have GE275 := gw hg (hs_ HB); have GW275 := GE275; have NB273_275 := nl hg (bk BK273); have NB275_273 := ng hg (bk BK273); have NB274_275 := nl hg (bk BK274); have NB275_274 := ng hg (bk BK274); replace BK273 := bb (bk BK273) hb; replace BK274 := bb (bk BK274) hb; replace HB := hbb (hs_ HB) hb; clear hb hbox hg; have hnb22 := NB274_273.out; have hnc22 := NB273_274.out; have hnb23 := NB274_275.out; have hnc23 := NB275_274.out; obtain ⟨hcz24_0, hcz24_1, hfz24_0, hfz24_1⟩ := cz2 BK274) | ((with_reducible refine gate_callee (f := 55) rfl ?_); refine gL 7 Try.func55 #[.agg #[.int .i64 a1_0, .int .i64 a1_1]] ?_; (with_reducible refine (impl_SpanOk.calls a1_0 a1_1 false _ A3.out).mono ?_); rintro e w25 ⟨rfl, hb⟩; refine ⟨_, rfl, ?_⟩; replace BK273 := bb (bk BK273) hb; replace BK274 := bb (bk BK274) hb; replace BK275 := bb (bk BK275) hb; replace HB := hbb (hs_ HB) hb; clear hb; have hnb26 := NB275_273.out; have hnc26 := NB273_275.out; obtain ⟨hcz27_0, hcz27_1, hfz27_0, hfz27_1⟩ := cz2 BK275))
  refine bodyPost_ret (results_ct rfl _ _ gb275 23 #[.int .i64 0, .int .i64 0] (0, 0) _ rfl (bkp BK275) Try.underlying23 rfl (by kernel_rfl)) rfl ?_
  exact ⟨by first | rfl | (simp [errW_none, errW_some] <;> rfl) | (simp [*, errW_none, errW_some] <;> rfl), hs_ HB⟩


/-! ### impl_scaled: function 44 -/
def impl_scaled.f (k : Nat) (a0 : Int) (a1_0 : Int) (a1_1 : Int) : Option (Int × Int) := (impl_SpanMul.f k a0 a0 a1_0 a1_1).bind fun bt269 => (some (bt269.1, bt269.2.1))
theorem impl_scaled.mono : ∀ a0 a1 a2 k, LeO (impl_scaled.f k a0 a1 a2) (impl_scaled.f (k + 1) a0 a1 a2) := by
 intro a0 a1 a2 k
 unfold impl_scaled.f
 repeat' first
   | (with_reducible exact impl_SpanMul.mono _ _ _ _ _)
   | (with_reducible exact LeO.refl _)
   | (with_reducible exact LeO.none _)
   | (with_reducible refine LeO.ite ?_ ?_)
   | (with_reducible refine LeO.bind ?_ (fun _ => ?_))
   | exact impl_SpanMul.mono _ _ _ _ _
   | exact LeO.none _
   | refine LeO.ite ?_ ?_
   | refine LeO.bind ?_ (fun _ => ?_)
set_option maxHeartbeats 8000000 in
set_option maxRecDepth 100000 in
theorem impl_scaled.calls (k : Nat) (a0 : Int) (a1_0 : Int) (a1_1 : Int) (r1 : Int) (r2 : Int) (w : World) (h : impl_scaled.f k a0 a1_0 a1_1 = some (r1, r2)) :
  Calls Try.prog 44 #[.int .i64 a0, .agg #[.int .i64 a1_0, .int .i64 a1_1]] w fun e w' => e = .returned (.agg #[.int .i64 r1, .int .i64 r2]) ∧ Below w.heap.size w w' := by
 have hu23 := Try.underlying23
 have HB := Aside0.mk (Below.refl w.heap.size w)
 have H : ((impl_SpanMul.f k a0 a0 a1_0 a1_1).bind fun bt269 => (some (bt269.1, bt269.2.1))) = some (r1, r2) := h
 clear h
 replace H := Option.bind_eq_some_iff.mp H
 obtain ⟨⟨t269, t270, t271⟩, A30, H⟩ := H
 replace H : (some (t269, t270)) = some (r1, r2) := H
 have A3 := Aside0.mk A30
 clear A30
 simp only [Option.some.injEq, Prod.mk.injEq] at H
 obtain ⟨rfl, rfl⟩ := H
 go_enter Try.func44, Try.ntmps44
 go_wp2_with (first | ((with_reducible refine gate_dst (N := 3) rfl ?_); refine bE 3 #[.int .i64 a1_0, .int .i64 a1_1] 23 ?_; intro gb267 hg w4 hbox hb; have BK267 := Aside0.mk (hbox); have GE267 := gw hg (h0_ HB); have GW267 := GE267; replace HB := hbb (h0_ HB) hb; clear hb hbox hg) | ((with_reducible refine gate_dst (N := 4) rfl ?_); refine bE 4 #[.int .i64 0, .int .i64 0] 23 ?_; intro gb268 hg w5 hbox hb; have BK268 := Aside0.mk (hbox); have GE268 := gw hg (hs_ HB); have GW268 := GE268; have NB267_268 := nl hg (bk BK267); have NB268_267 := ng hg (bk BK267); replace BK267 := bb (bk BK267) hb; replace HB := hbb (hs_ HB) hb; clear hb hbox hg; have hnb6 := NB267_268.out; have hnc6 := NB268_267.out; obtain ⟨hcz7_0, hcz7_1, hfz7_0, hfz7_1⟩ := cz2 BK267) | ((with_reducible refine gate_callee (f := 32) rfl ?_); refine gL 12 Try.func32 #[.agg #[.int .i64 a0, .int .i64 a0], .agg #[.int .i64 a1_0, .int .i64 a1_1]] ?_; (with_reducible refine (impl_SpanMul.calls k a0 a0 a1_0 a1_1 t269 t270 t271 _ A3.out).mono ?_); rintro e w8 ⟨rfl, hb⟩; refine ⟨_, rfl, ?_⟩; replace BK267 := bb (bk BK267) hb; replace BK268 := bb (bk BK268) hb; replace HB := hbb (hs_ HB) hb; clear hb) | ((with_reducible refine gate_dst (N := 5) rfl ?_); refine bE 5 #[.int .i64 0, .int .i64 0] 23 ?_; intro gb272 hg w9 hbox hb; have BK272 := Aside0.mk (hbox); have GE272 := gw hg (hs_ HB); have GW272 := GE272; have NB267_272 := nl hg (bk BK267); have NB272_267 := ng hg (bk BK267); have NB268_272 := nl hg (bk BK268); have NB272_268 := ng hg (bk BK268); replace BK267 := bb (bk BK267) hb; replace BK268 := bb (bk BK268) hb; replace HB := hbb (hs_ HB) hb; clear hb hbox hg; have hnb10 := NB272_267.out; have hnc10 := NB267_272.out; have hnb11 := NB272_268.out; have hnc11 := NB268_272.out; obtain ⟨hcz12_0, hcz12_1, hfz12_0, hfz12_1⟩ := cz2 BK272; obtain ⟨hcz13_0, hcz13_1, hfz13_0, hfz13_1⟩ := cz2 BK268))
 refine bodyPost_ret (results_cell_row rfl _ _ gb268 23 #[.int .i64 t269, .int .i64 t270] (0, 0) _ rfl (bkp BK268) Try.underlying23 rfl (by kernel_rfl)) rfl ?_
 exact ⟨by first | rfl | (simp [errW_none, errW_some] <;> rfl) | (simp [*, errW_none, errW_some] <;> rfl), hs_ HB⟩


end Go.Proofs.Ytcdgplkmahabiaa.M
