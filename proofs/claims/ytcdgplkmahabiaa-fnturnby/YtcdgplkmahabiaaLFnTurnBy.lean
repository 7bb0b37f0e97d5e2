import Derived.Test.YtcdgplkmahabiaaP6
import Derived.Test.YtcdgplkmahabiaaMe
import Derived.Test.YtcdgplkmahabiaaDc
namespace Go.Proofs.Ytcdgplkmahabiaa.M
open Go.RowKit Go.Proofs.YtcdgplkmahabiaaW.PrintWords Go.Proofs.YtcdgplkmahabiaaW.PrintLast Go.Proofs.YtcdgplkmahabiaaW.PrintMore
attribute [local go_sem] max2_int min2_int max_two min_two max_three min_three max_four min_four
attribute [local go_sem high] eqA23 eqA30
attribute [local go_sem] fld23_0 fld23_1 fld30_0 fld30_1 fld55_0 fld55_1 fld55_2 fld55_3 fld55_4
set_option linter.unusedVariables false
set_option linter.unusedSimpArgs false
/-! ### laws_FnTurnBy: function 14 -/
def laws_FnTurnBy.j0 : Nat → Int → Int → Bool → Bool → Bool → Int → Int → Int → Int → Int → Int → Int → Int → Option (Bool)
 | 0, _, _, _, _, _, _, _, _, _, _, _, _, _ => none
 | k + 1, x3, x4, x8, x11, x62, x386000, x386001, x387000, x387001, x393000, x393001, x394000, x394001 => if x62 = true then (if (x11 == x8) = true then (if (x393000 == x386000 && (x393001 == x386001)) = true then (some (x394000 == x387000 && (x394001 == x387001))) else (some false)) else (some false)) else ((impl_SpanMul.f k x393000 x393001 x393000 x393001).bind fun bt394 => ((impl_SpanMul.f k x394000 x394001 x394000 x394001).bind fun bt398 => ((impl_NumDown.f (wrap64 ((wrap64 (x3 * x3)) + (wrap64 (x4 * x4)))) 1000000000).bind fun bt402 => ((impl_NumUp.f (wrap64 ((wrap64 (x3 * x3)) + (wrap64 (x4 * x4)))) 1000000000).bind fun bt404 => (if (wrap64 (bt394.1 + bt398.1)) ≤ bt404.1 then (some (decide ((wrap64 (bt394.2.1 + bt398.2.1)) ≥ bt402.1))) else (some false))))))
def laws_FnTurnBy.f (k : Nat) (l0 : List Int) : Option (Bool) := if (l0.length : Int) > 1048576 then (some true) else ((spec_DrawTurnBy.f k l0).bind fun bt377 => ((spec_TurnBy.f k bt377.1 bt377.2.1 bt377.2.2).bind fun bt380 => ((impl_TurnBy.f k bt377.1 bt377.2.1 bt377.2.2).bind fun bt387 => (if (bt387.2.2.2.2 != bt380.2.2.2.2) = true then (laws_FnTurnBy.j0 k bt377.1 bt377.2.1 bt380.2.2.2.2 bt387.2.2.2.2 true bt380.1 bt380.2.1 bt380.2.2.1 bt380.2.2.2.1 bt387.1 bt387.2.1 bt387.2.2.1 bt387.2.2.2.1) else (if (!(bt387.1 == bt380.1) || (!(bt387.2.1 == bt380.2.1))) = true then (laws_FnTurnBy.j0 k bt377.1 bt377.2.1 bt380.2.2.2.2 bt387.2.2.2.2 true bt380.1 bt380.2.1 bt380.2.2.1 bt380.2.2.2.1 bt387.1 bt387.2.1 bt387.2.2.1 bt387.2.2.2.1) else (if (!(bt387.2.2.1 == bt380.2.2.1) || (!(bt387.2.2.2.1 == bt380.2.2.2.1))) = true then (laws_FnTurnBy.j0 k bt377.1 bt377.2.1 bt380.2.2.2.2 bt387.2.2.2.2 true bt380.1 bt380.2.1 bt380.2.2.1 bt380.2.2.2.1 bt387.1 bt387.2.1 bt387.2.2.1 bt387.2.2.2.1) else (laws_FnTurnBy.j0 k bt377.1 bt377.2.1 bt380.2.2.2.2 bt387.2.2.2.2 (!bt387.2.2.2.2) bt380.1 bt380.2.1 bt380.2.2.1 bt380.2.2.2.1 bt387.1 bt387.2.1 bt387.2.2.1 bt387.2.2.2.1)))))))
theorem laws_FnTurnBy.mono_l : ∀ k, (∀ y0 y1 y2 y3 y4 y5 y6 y7 y8 y9 y10 y11 y12, LeO (laws_FnTurnBy.j0 k y0 y1 y2 y3 y4 y5 y6 y7 y8 y9 y10 y11 y12) (laws_FnTurnBy.j0 (k + 1) y0 y1 y2 y3 y4 y5 y6 y7 y8 y9 y10 y11 y12))
 | 0 => fun _ _ _ _ _ _ _ _ _ _ _ _ _ r h => by simp [laws_FnTurnBy.j0] at h
 | k + 1 => by
  have ih0 := laws_FnTurnBy.mono_l k
  ·intro y0 y1 y2 y3 y4 y5 y6 y7 y8 y9 y10 y11 y12
   unfold laws_FnTurnBy.j0
   repeat' first
   | (with_reducible exact ih0 _ _ _ _ _ _ _ _ _ _ _ _ _)
   | (with_reducible exact impl_SpanMul.mono _ _ _ _ _)
   | (with_reducible exact impl_TurnBy.mono _ _ _ _)
   | (with_reducible exact spec_DrawTurnBy.mono _ _)
   | (with_reducible exact spec_TurnBy.mono _ _ _ _)
   | (with_reducible exact LeO.refl _)
   | (with_reducible exact LeO.none _)
   | (with_reducible refine LeO.ite ?_ ?_)
   | (with_reducible refine LeO.bind ?_ (fun _ => ?_))
   | exact ih0 _ _ _ _ _ _ _ _ _ _ _ _ _
   | exact impl_SpanMul.mono _ _ _ _ _
   | exact impl_TurnBy.mono _ _ _ _
   | exact spec_DrawTurnBy.mono _ _
   | exact spec_TurnBy.mono _ _ _ _
   | exact LeO.none _
   | refine LeO.ite ?_ ?_
   | refine LeO.bind ?_ (fun _ => ?_)
theorem laws_FnTurnBy.mono : ∀ a0 k, LeO (laws_FnTurnBy.f k a0) (laws_FnTurnBy.f (k + 1) a0) := by
 intro a0 k
 have ih0 := laws_FnTurnBy.mono_l k
 unfold laws_FnTurnBy.f
 repeat' first
   | (with_reducible exact ih0 _ _ _ _ _ _ _ _ _ _ _ _ _)
   | (with_reducible exact impl_SpanMul.mono _ _ _ _ _)
   | (with_reducible exact impl_TurnBy.mono _ _ _ _)
   | (with_reducible exact spec_DrawTurnBy.mono _ _)
   | (with_reducible exact spec_TurnBy.mono _ _ _ _)
   | (with_reducible exact LeO.refl _)
   | (with_reducible exact LeO.none _)
   | (with_reducible refine LeO.ite ?_ ?_)
   | (with_reducible refine LeO.bind ?_ (fun _ => ?_))
   | exact ih0 _ _ _ _ _ _ _ _ _ _ _ _ _
   | exact impl_SpanMul.mono _ _ _ _ _
   | exact impl_TurnBy.mono _ _ _ _
   | exact spec_DrawTurnBy.mono _ _
   | exact spec_TurnBy.mono _ _ _ _
   | exact LeO.none _
   | refine LeO.ite ?_ ?_
   | refine LeO.bind ?_ (fun _ => ?_)
set_option maxHeartbeats 8000000 in
set_option maxRecDepth 100000 in
theorem laws_FnTurnBy.calls (k : Nat) (A0 : Option Addr) (c0 : Nat) (l0 : List Int) (r : Bool) (w : World) (hr0 : Kd.C (Kd.int .u8) w A0 l0.length l0) (hc0 : l0.length ≤ c0) (h : laws_FnTurnBy.f k l0 = some r) :
  Calls Try.prog 14 #[.slice A0 l0.length c0] w fun e w' => e = .returned (.bool r) ∧ Below w.heap.size w w' := by
 have hu23 := Try.underlying23
 have HR0 := Aside0.mk hr0
 have HC0 := Aside0.mk hc0
 clear hr0 hc0
 have HB := Aside0.mk (Below.refl w.heap.size w)
 have H : (if (l0.length : Int) > 1048576 then (some true) else ((spec_DrawTurnBy.f k l0).bind fun bt377 => ((spec_TurnBy.f k bt377.1 bt377.2.1 bt377.2.2).bind fun bt380 => ((impl_TurnBy.f k bt377.1 bt377.2.1 bt377.2.2).bind fun bt387 => (if (bt387.2.2.2.2 != bt380.2.2.2.2) = true then (laws_FnTurnBy.j0 k bt377.1 bt377.2.1 bt380.2.2.2.2 bt387.2.2.2.2 true bt380.1 bt380.2.1 bt380.2.2.1 bt380.2.2.2.1 bt387.1 bt387.2.1 bt387.2.2.1 bt387.2.2.2.1) else (if (!(bt387.1 == bt380.1) || (!(bt387.2.1 == bt380.2.1))) = true then (laws_FnTurnBy.j0 k bt377.1 bt377.2.1 bt380.2.2.2.2 bt387.2.2.2.2 true bt380.1 bt380.2.1 bt380.2.2.1 bt380.2.2.2.1 bt387.1 bt387.2.1 bt387.2.2.1 bt387.2.2.2.1) else (if (!(bt387.2.2.1 == bt380.2.2.1) || (!(bt387.2.2.2.1 == bt380.2.2.2.1))) = true then (laws_FnTurnBy.j0 k bt377.1 bt377.2.1 bt380.2.2.2.2 bt387.2.2.2.2 true bt380.1 bt380.2.1 bt380.2.2.1 bt380.2.2.2.1 bt387.1 bt387.2.1 bt387.2.2.1 bt387.2.2.2.1) else (laws_FnTurnBy.j0 k bt377.1 bt377.2.1 bt380.2.2.2.2 bt387.2.2.2.2 (!bt387.2.2.2.2) bt380.1 bt380.2.1 bt380.2.2.1 bt380.2.2.2.1 bt387.1 bt387.2.1 bt387.2.2.1 bt387.2.2.2.1)))))))) = some r := h
 clear h
 by_cases c2 : (l0.length : Int) > 1048576
 ·rw [if_pos c2] at H
  have c2b0 : decide (1048576 < (l0.length : Int)) = true := decide_eq_true c2
  have c2b1 : decide (1048576 < l0.length) = true := decide_eq_true (by omega)
  clear c2
  obtain rfl := Option.some.inj H
  go_enter Try.func14, Try.ntmps14
  go_wp2
  go_ret
  exact ⟨by first | rfl | (simp [errW_none, errW_some] <;> rfl) | (simp [*, errW_none, errW_some] <;> rfl), h0_ HB⟩
 ·rw [if_neg c2] at H
  have c2b0 : decide (1048576 < (l0.length : Int)) = false := decide_eq_false c2
  have c2b1 : decide (1048576 < l0.length) = false := decide_eq_false (by omega)
  clear c2
  replace H := Option.bind_eq_some_iff.mp H
  obtain ⟨⟨t377, t378, t379⟩, A30, H⟩ := H
  replace H : ((spec_TurnBy.f k t377 t378 t379).bind fun bt380 => ((impl_TurnBy.f k t377 t378 t379).bind fun bt387 => (if (bt387.2.2.2.2 != bt380.2.2.2.2) = true then (laws_FnTurnBy.j0 k t377 t378 bt380.2.2.2.2 bt387.2.2.2.2 true bt380.1 bt380.2.1 bt380.2.2.1 bt380.2.2.2.1 bt387.1 bt387.2.1 bt387.2.2.1 bt387.2.2.2.1) else (if (!(bt387.1 == bt380.1) || (!(bt387.2.1 == bt380.2.1))) = true then (laws_FnTurnBy.j0 k t377 t378 bt380.2.2.2.2 bt387.2.2.2.2 true bt380.1 bt380.2.1 bt380.2.2.1 bt380.2.2.2.1 bt387.1 bt387.2.1 bt387.2.2.1 bt387.2.2.2.1) else (if (!(bt387.2.2.1 == bt380.2.2.1) || (!(bt387.2.2.2.1 == bt380.2.2.2.1))) = true then (laws_FnTurnBy.j0 k t377 t378 bt380.2.2.2.2 bt387.2.2.2.2 true bt380.1 bt380.2.1 bt380.2.2.1 bt380.2.2.2.1 bt387.1 bt387.2.1 bt387.2.2.1 bt387.2.2.2.1) else (laws_FnTurnBy.j0 k t377 t378 bt380.2.2.2.2 bt387.2.2.2.2 (!bt387.2.2.2.2) bt380.1 bt380.2.1 bt380.2.2.1 bt380.2.2.2.1 bt387.1 bt387.2.1 bt387.2.2.1 bt387.2.2.2.1)))))) = some r := H
  have A3 := Aside0.mk A30
  clear A30
  replace H := Option.bind_eq_some_iff.mp H
  obtain ⟨⟨t380, t381, t382, t383, t384⟩, A40, H⟩ := H
  replace H : ((impl_TurnBy.f k t377 t378 t379).bind fun bt387 => (if (bt387.2.2.2.2 != t384) = true then (laws_FnTurnBy.j0 k t377 t378 t384 bt387.2.2.2.2 true t380 t381 t382 t383 bt387.1 bt387.2.1 bt387.2.2.1 bt387.2.2.2.1) else (if (!(bt387.1 == t380) || (!(bt387.2.1 == t381))) = true then (laws_FnTurnBy.j0 k t377 t378 t384 bt387.2.2.2.2 true t380 t381 t382 t383 bt387.1 bt387.2.1 bt387.2.2.1 bt387.2.2.2.1) else (if (!(bt387.2.2.1 == t382) || (!(bt387.2.2.2.1 == t383))) = true then (laws_FnTurnBy.j0 k t377 t378 t384 bt387.2.2.2.2 true t380 t381 t382 t383 bt387.1 bt387.2.1 bt387.2.2.1 bt387.2.2.2.1) else (laws_FnTurnBy.j0 k t377 t378 t384 bt387.2.2.2.2 (!bt387.2.2.2.2) t380 t381 t382 t383 bt387.1 bt387.2.1 bt387.2.2.1 bt387.2.2.2.1))))) = some r := H
  have A4 := Aside0.mk A40
  clear A40
  replace H := Option.bind_eq_some_iff.mp H
  obtain ⟨⟨t387, t388, t389, t390, t391⟩, A50, H⟩ := H
  replace H : (if (t391 != t384) = true then (laws_FnTurnBy.j0 k t377 t378 t384 t391 true t380 t381 t382 t383 t387 t388 t389 t390) else (if (!(t387 == t380) || (!(t388 == t381))) = true then (laws_FnTurnBy.j0 k t377 t378 t384 t391 true t380 t381 t382 t383 t387 t388 t389 t390) else (if (!(t389 == t382) || (!(t390 == t383))) = true then (laws_FnTurnBy.j0 k t377 t378 t384 t391 true t380 t381 t382 t383 t387 t388 t389 t390) else (laws_FnTurnBy.j0 k t377 t378 t384 t391 (!t391) t380 t381 t382 t383 t387 t388 t389 t390)))) = some r := H
  have A5 := Aside0.mk A50
  clear A50
  have HC6 := Aside0.mk H
  clear H
  go_enter Try.func14, Try.ntmps14
  go_upto_region 6 with (first | ((with_reducible refine gate_callee (f := 26) rfl ?_); refine gL 26 Try.func26 #[.slice A0 l0.length c0] ?_; (with_reducible refine (spec_DrawTurnBy.calls k _ _ l0 t377 t378 t379 _ ?side1 ?side2 A3.out).mono ?_); (case side1 => repeat (first | exact HR0.out | (with_reducible refine Kd.C_alloc ?_ _) | (with_reducible refine Kd.C_drewN ?_ _) | (with_reducible refine Kd.C_drew ?_))); (case side2 => exact HC0.out); rintro e w7 ⟨rfl, hb⟩; refine ⟨_, rfl, ?_⟩; replace HB := hbb (h0_ HB) hb; clear hb) | ((with_reducible refine gate_callee (f := 15) rfl ?_); refine gL 34 Try.func15 #[.int .i64 t377, .int .i64 t378, .int .i64 t379] ?_; (with_reducible refine (spec_TurnBy.calls k t377 t378 t379 t380 t381 t382 t383 t384 _ A4.out).mono ?_); rintro e w8 ⟨rfl, hb⟩; refine ⟨_, rfl, ?_⟩; replace HB := hbb (h0_ HB) hb; clear hb) | ((with_reducible refine gate_dst (N := 6) rfl ?_); refine bE 6 #[.int .i64 0, .int .i64 0] 23 ?_; intro gb385 hg w9 hbox hb; have BK385 := Aside0.mk (hbox); have GE385 := gw hg (h0_ HB); have GW385 := GE385; replace HB := hbb (h0_ HB) hb; clear hb hbox hg) | ((with_reducible refine gate_dst (N := 7) rfl ?_); refine bE 7 #[.int .i64 0, .int .i64 0] 23 ?_; intro gb386 hg w10 hbox hb; have BK386 := Aside0.mk (hbox); have GE386 := gw hg (hs_ HB); have GW386 := GE386; have NB385_386 := nl hg (bk BK385); have NB386_385 := ng hg (bk BK385); replace BK385 := bb (bk BK385) hb; replace HB := hbb (hs_ HB) hb; clear hb hbox hg; have hnb11 := NB385_386.out; have hnc11 := NB386_385.out; obtain ⟨hcz12_0, hcz12_1, hfz12_0, hfz12_1⟩ := cz2 BK385; obtain ⟨hcz13_0, hcz13_1, hfz13_0, hfz13_1⟩ := cz2 BK386) | ((with_reducible refine gate_callee (f := 16) rfl ?_); refine gL 42 Try.func16 #[.int .i64 t377, .int .i64 t378, .int .i64 t379] ?_; (with_reducible refine (impl_TurnBy.calls k t377 t378 t379 t387 t388 t389 t390 t391 _ A5.out).mono ?_); rintro e w14 ⟨rfl, hb⟩; refine ⟨_, rfl, ?_⟩; replace BK385 := bb (o := .cells #[.int .i64 t380, .int .i64 t381] 23 (0, 0)) (bkp BK385) hb; replace BK386 := bb (o := .cells #[.int .i64 t382, .int .i64 t383] 23 (0, 0)) (bkp BK386) hb; replace HB := hbb (hs_ HB) hb; clear hb) | ((with_reducible refine gate_dst (N := 9) rfl ?_); refine bE 9 #[.int .i64 0, .int .i64 0] 23 ?_; intro gb392 hg w15 hbox hb; have BK392 := Aside0.mk (hbox); have GE392 := gw hg (hs_ HB); have GW392 := GE392; have NB385_392 := nl hg (bk BK385); have NB392_385 := ng hg (bk BK385); have NB386_392 := nl hg (bk BK386); have NB392_386 := ng hg (bk BK386); replace BK385 := bb (bk BK385) hb; replace BK386 := bb (bk BK386) hb; replace HB := hbb (hs_ HB) hb; clear hb hbox hg) | ((with_reducible refine gate_dst (N := 10) rfl ?_); refine bE 10 #[.int .i64 0, .int .i64 0] 23 ?_; intro gb393 hg w16 hbox hb; have BK393 := Aside0.mk (hbox); have GE393 := gw hg (hs_ HB); have GW393 := GE393; have NB385_393 := nl hg (bk BK385); have NB393_385 := ng hg (bk BK385); have NB386_393 := nl hg (bk BK386); have NB393_386 := ng hg (bk BK386); have NB392_393 := nl hg (bk BK392); have NB393_392 := ng hg (bk BK392); replace BK385 := bb (bk BK385) hb; replace BK386 := bb (bk BK386) hb; replace BK392 := bb (bk BK392) hb; replace HB := hbb (hs_ HB) hb; clear hb hbox hg; have hnb17 := NB392_385.out; have hnc17 := NB385_392.out; have hnb18 := NB392_386.out; have hnc18 := NB386_392.out; have hnb19 := NB392_393.out; have hnc19 := NB393_392.out; obtain ⟨hcz20_0, hcz20_1, hfz20_0, hfz20_1⟩ := cz2 BK392; have hnb21 := NB393_385.out; have hnc21 := NB385_393.out; have hnb22 := NB393_386.out; have hnc22 := NB386_393.out; obtain ⟨hcz23_0, hcz23_1, hfz23_0, hfz23_1⟩ := cz2 BK393))
  (try simp only [Act.put, List.setIfInBounds_toArray, List.set_cons_zero, List.set_cons_succ])
  go_cut [62] (fun v62 wc => ∃ (kq : Nat) (x62_5 : Bool), v62 = .bool x62_5 ∧ Aside0 (laws_FnTurnBy.j0 kq t377 t378 t384 t391 x62_5 t380 t381 t382 t383 t387 t388 t389 t390 = some r) ∧ Aside0 (kq ≤ k) ∧ Aside0 (wc.heap[gb385]? = some (.cells #[.int .i64 t380, .int .i64 t381] 23 (0, 0))) ∧ Aside0 (wc.heap[gb386]? = some (.cells #[.int .i64 t382, .int .i64 t383] 23 (0, 0))) ∧ Aside0 (wc.heap[gb392]? = some (.cells #[.int .i64 t387, .int .i64 t388] 23 (0, 0))) ∧ Aside0 (wc.heap[gb393]? = some (.cells #[.int .i64 t389, .int .i64 t390] 23 (0, 0))) ∧ Aside0 (Below w.heap.size w wc))
  case first =>
   have H := HC6.out
   clear HC6
   by_cases c24 : (t391 != t384) = true
   ·rw [if_pos c24] at H
    have c24b0 : (t391 != t384) = true := c24
    (try (have c24b1 : decide (t391 = t384) = false := by simpa using c24))
    (try (have c24b2 : (t391 == t384) = false := by simpa using c24))
    (try (have c24b3 : ¬ (t391 = t384) := by simpa using c24))
    clear c24
    (first | rw [c24b0] | (simp only [i64_w, i32_w]; rw [c24b0]) | skip)
    have H' := Aside0.mk H
    clear H
    go_wp2
    go_meet
    case rel => exact ⟨_, (true), (by first | rfl | (simp; done) | (simp [*]; done)), H', ⟨by first | omega | exact Nat.le_refl _⟩, ⟨bk2 BK385 NB385_393 NB385_392⟩, ⟨bk2 BK386 NB386_393 NB386_392⟩, ⟨bkp BK392⟩, ⟨bkp BK393⟩, ⟨hs_ HB⟩⟩
   ·rw [if_neg c24] at H
    have c24b0 : (t391 != t384) = false := by simpa using c24
    (try (have c24b1 : decide (t391 = t384) = true := by simpa using c24))
    (try (have c24b2 : (t391 == t384) = true := by simpa using c24))
    clear c24
    (first | rw [c24b0] | (simp only [i64_w, i32_w]; rw [c24b0]) | skip)
    by_cases c25 : (!(t387 == t380) || (!(t388 == t381))) = true
    ·rw [if_pos c25] at H
     have c25b0 : (!(t387 == t380) || (!(t388 == t381))) = true := c25
     clear c25
     have H' := Aside0.mk H
     clear H
     have hnb26 := NB392_385.out
     have hnc26 := NB385_392.out
     have hnb27 := NB392_386.out
     have hnc27 := NB386_392.out
     have hnb28 := NB392_393.out
     have hnc28 := NB393_392.out
     obtain ⟨hcz29_0, hcz29_1, hfz29_0, hfz29_1⟩ := cz2 BK392
     have hnb30 := NB385_386.out
     have hnc30 := NB386_385.out
     have hnb31 := NB385_393.out
     have hnc31 := NB393_385.out
     obtain ⟨hcz32_0, hcz32_1, hfz32_0, hfz32_1⟩ := cz2 BK385
     go_wp2
     go_meet
     case rel => exact ⟨_, (true), (by first | rfl | (simp; done) | (simp [*]; done)), H', ⟨by first | omega | exact Nat.le_refl _⟩, ⟨bk2 BK385 NB385_393 NB385_392⟩, ⟨bk2 BK386 NB386_393 NB386_392⟩, ⟨bkp BK392⟩, ⟨bkp BK393⟩, ⟨hs_ HB⟩⟩
    ·rw [if_neg c25] at H
     have c25b0 : (!(t387 == t380) || (!(t388 == t381))) = false := by simpa using c25
     clear c25
     by_cases c33 : (!(t389 == t382) || (!(t390 == t383))) = true
     ·rw [if_pos c33] at H
      have c33b0 : (!(t389 == t382) || (!(t390 == t383))) = true := c33
      clear c33
      have H' := Aside0.mk H
      clear H
      have hnb34 := NB392_385.out
      have hnc34 := NB385_392.out
      have hnb35 := NB392_386.out
      have hnc35 := NB386_392.out
      have hnb36 := NB392_393.out
      have hnc36 := NB393_392.out
      obtain ⟨hcz37_0, hcz37_1, hfz37_0, hfz37_1⟩ := cz2 BK392
      have hnb38 := NB385_386.out
      have hnc38 := NB386_385.out
      have hnb39 := NB385_393.out
      have hnc39 := NB393_385.out
      obtain ⟨hcz40_0, hcz40_1, hfz40_0, hfz40_1⟩ := cz2 BK385
      have hnb41 := NB393_386.out
      have hnc41 := NB386_393.out
      obtain ⟨hcz42_0, hcz42_1, hfz42_0, hfz42_1⟩ := cz2 BK393
      obtain ⟨hcz43_0, hcz43_1, hfz43_0, hfz43_1⟩ := cz2 BK386
      go_wp2
      go_meet
      case rel => exact ⟨_, (true), (by first | rfl | (simp; done) | (simp [*]; done)), H', ⟨by first | omega | exact Nat.le_refl _⟩, ⟨bk2 BK385 NB385_393 NB385_392⟩, ⟨bk2 BK386 NB386_393 NB386_392⟩, ⟨bkp BK392⟩, ⟨bkp BK393⟩, ⟨hs_ HB⟩⟩
     ·rw [if_neg c33] at H
      have c33b0 : (!(t389 == t382) || (!(t390 == t383))) = false := by simpa using c33
      clear c33
      have H' := Aside0.mk H
      clear H
      have hnb44 := NB392_385.out
      have hnc44 := NB385_392.out
      have hnb45 := NB392_386.out
      have hnc45 := NB386_392.out
      have hnb46 := NB392_393.out
      have hnc46 := NB393_392.out
      obtain ⟨hcz47_0, hcz47_1, hfz47_0, hfz47_1⟩ := cz2 BK392
      have hnb48 := NB385_386.out
      have hnc48 := NB386_385.out
      have hnb49 := NB385_393.out
      have hnc49 := NB393_385.out
      obtain ⟨hcz50_0, hcz50_1, hfz50_0, hfz50_1⟩ := cz2 BK385
      have hnb51 := NB393_386.out
      have hnc51 := NB386_393.out
      obtain ⟨hcz52_0, hcz52_1, hfz52_0, hfz52_1⟩ := cz2 BK393
      obtain ⟨hcz53_0, hcz53_1, hfz53_0, hfz53_1⟩ := cz2 BK386
      go_wp2
      go_meet
      case rel => exact ⟨_, (!t391), (by first | rfl | (simp; done) | (simp [*]; done)), H', ⟨by first | omega | exact Nat.le_refl _⟩, ⟨bk2 BK385 NB385_393 NB385_392⟩, ⟨bk2 BK386 NB386_393 NB386_392⟩, ⟨bkp BK392⟩, ⟨bkp BK393⟩, ⟨hs_ HB⟩⟩
  case rest =>
   clear HC6
   try clear c1
   try clear c2
   try clear c2b0
   try clear c2b1
   try clear p2
   try clear c3
   try clear c4
   try clear c5
   try clear c11
   try clear c14
   try clear c15
   try clear c16
   try clear c17
   try clear c18
   try clear c19
   try clear c21
   try clear c22
   try clear c24
   try clear c24b0
   try clear c24b1
   try clear c24b2
   try clear c25
   try clear c25b0
   try clear c26
   try clear c27
   try clear c28
   try clear c30
   try clear c31
   try clear c33
   try clear c33b0
   try clear c34
   try clear c35
   try clear c36
   try clear c38
   try clear c39
   try clear c41
   try clear c44
   try clear c45
   try clear c46
   try clear c48
   try clear c49
   try clear c51
   try clear hcz12_0
   try clear hcz12_1
   try clear hcz13_0
   try clear hcz13_1
   try clear hcz20_0
   try clear hcz20_1
   try clear hcz23_0
   try clear hcz23_1
   try clear hcz29_0
   try clear hcz29_1
   try clear hcz32_0
   try clear hcz32_1
   try clear hcz37_0
   try clear hcz37_1
   try clear hcz40_0
   try clear hcz40_1
   try clear hcz42_0
   try clear hcz42_1
   try clear hcz43_0
   try clear hcz43_1
   try clear hcz47_0
   try clear hcz47_1
   try clear hcz50_0
   try clear hcz50_1
   try clear hcz52_0
   try clear hcz52_1
   try clear hcz53_0
   try clear hcz53_1
   try clear hfz12_0
   try clear hfz12_1
   try clear hfz13_0
   try clear hfz13_1
   try clear hfz20_0
   try clear hfz20_1
   try clear hfz23_0
   try clear hfz23_1
   try clear hfz29_0
   try clear hfz29_1
   try clear hfz32_0
   try clear hfz32_1
   try clear hfz37_0
   try clear hfz37_1
   try clear hfz40_0
   try clear hfz40_1
   try clear hfz42_0
   try clear hfz42_1
   try clear hfz43_0
   try clear hfz43_1
   try clear hfz47_0
   try clear hfz47_1
   try clear hfz50_0
   try clear hfz50_1
   try clear hfz52_0
   try clear hfz52_1
   try clear hfz53_0
   try clear hfz53_1
   obtain ⟨kq, x62_5, rfl, HA, HJ5, BK385, BK386, BK392, BK393, HB⟩ := hcut
   cases kq with
   | zero => exact absurd HA.out (by simp [laws_FnTurnBy.j0])
   | succ kj5 =>
    have H := HA.out
    clear HA
    simp only [laws_FnTurnBy.j0] at H
    by_cases c54 : x62_5 = true
    ·subst c54
     have H1 : (if (t391 == t384) = true then (if (t387 == t380 && (t388 == t381)) = true then (some (t389 == t382 && (t390 == t383))) else (some false)) else (some false)) = some r := by rw [if_pos rfl] at H; exact H
     clear H
     have H := H1
     clear H1
     by_cases c55 : (t391 == t384) = true
     ·rw [if_pos c55] at H
      have c55b0 : (t391 == t384) = true := c55
      (try (have c55b1 : decide (t391 = t384) = true := by simpa using c55))
      (try (have c55b2 : (t391 == t384) = true := by simpa using c55))
      clear c55
      by_cases c56 : (t387 == t380 && (t388 == t381)) = true
      ·rw [if_pos c56] at H
       have c56b0 : (t387 == t380 && (t388 == t381)) = true := c56
       (try (have c56b1 : decide (t387 = t380 && (t388 == t381)) = true := by simpa using c56))
       (try (have c56b2 : (t387 == t380 && (t388 == t381)) = true := by simpa using c56))
       clear c56
       obtain rfl := Option.some.inj H
       have hnb57 := NB392_385.out
       have hnc57 := NB385_392.out
       have hnb58 := NB392_386.out
       have hnc58 := NB386_392.out
       have hnb59 := NB392_393.out
       have hnc59 := NB393_392.out
       obtain ⟨hcz60_0, hcz60_1, hfz60_0, hfz60_1⟩ := cz2 BK392
       have hnb61 := NB385_386.out
       have hnc61 := NB386_385.out
       have hnb62 := NB385_393.out
       have hnc62 := NB393_385.out
       obtain ⟨hcz63_0, hcz63_1, hfz63_0, hfz63_1⟩ := cz2 BK385
       have hnb64 := NB393_386.out
       have hnc64 := NB386_393.out
       obtain ⟨hcz65_0, hcz65_1, hfz65_0, hfz65_1⟩ := cz2 BK393
       obtain ⟨hcz66_0, hcz66_1, hfz66_0, hfz66_1⟩ := cz2 BK386
       go_wp2
       go_ret
       exact ⟨by first | rfl | (simp [errW_none, errW_some] <;> rfl) | (simp [*, errW_none, errW_some] <;> rfl), hs_ HB⟩
      ·rw [if_neg c56] at H
       have c56b0 : (t387 == t380 && (t388 == t381)) = false := by simpa using c56
       (try (have c56b1 : decide (t387 = t380 && (t388 == t381)) = false := by simpa using c56))
       (try (have c56b2 : (t387 == t380 && (t388 == t381)) = false := by simpa using c56))
       (try (have c56b3 : ¬ (t387 = t380 && (t388 == t381)) := by simpa using c56))
       clear c56
       obtain rfl := Option.some.inj H
       have hnb67 := NB392_385.out
       have hnc67 := NB385_392.out
       have hnb68 := NB392_386.out
       have hnc68 := NB386_392.out
       have hnb69 := NB392_393.out
       have hnc69 := NB393_392.out
       obtain ⟨hcz70_0, hcz70_1, hfz70_0, hfz70_1⟩ := cz2 BK392
       have hnb71 := NB385_386.out
       have hnc71 := NB386_385.out
       have hnb72 := NB385_393.out
       have hnc72 := NB393_385.out
       obtain ⟨hcz73_0, hcz73_1, hfz73_0, hfz73_1⟩ := cz2 BK385
       go_wp2
       go_ret
       exact ⟨by first | rfl | (simp [errW_none, errW_some] <;> rfl) | (simp [*, errW_none, errW_some] <;> rfl), hs_ HB⟩
     ·rw [if_neg c55] at H
      have c55b0 : (t391 == t384) = false := by simpa using c55
      (try (have c55b1 : decide (t391 = t384) = false := by simpa using c55))
      (try (have c55b2 : (t391 == t384) = false := by simpa using c55))
      (try (have c55b3 : ¬ (t391 = t384) := by simpa using c55))
      clear c55
      obtain rfl := Option.some.inj H
      go_wp2
      go_ret
      exact ⟨by first | rfl | (simp [errW_none, errW_some] <;> rfl) | (simp [*, errW_none, errW_some] <;> rfl), hs_ HB⟩
    ·replace c54 := Bool.eq_false_iff.mpr c54
     subst c54
     have H1 : ((impl_SpanMul.f kj5 t387 t388 t387 t388).bind fun bt394 => ((impl_SpanMul.f kj5 t389 t390 t389 t390).bind fun bt398 => ((impl_NumDown.f (wrap64 ((wrap64 (t377 * t377)) + (wrap64 (t378 * t378)))) 1000000000).bind fun bt402 => ((impl_NumUp.f (wrap64 ((wrap64 (t377 * t377)) + (wrap64 (t378 * t378)))) 1000000000).bind fun bt404 => (if (wrap64 (bt394.1 + bt398.1)) ≤ bt404.1 then (some (decide ((wrap64 (bt394.2.1 + bt398.2.1)) ≥ bt402.1))) else (some false)))))) = some r := by rw [if_neg (show ¬ (false = true) by decide)] at H; exact H
     clear H
     have H := H1
     clear H1
     replace H := Option.bind_eq_some_iff.mp H
     obtain ⟨⟨t394, t395, t396⟩, A740, H⟩ := H
     replace H : ((impl_SpanMul.f kj5 t389 t390 t389 t390).bind fun bt398 => ((impl_NumDown.f (wrap64 ((wrap64 (t377 * t377)) + (wrap64 (t378 * t378)))) 1000000000).bind fun bt402 => ((impl_NumUp.f (wrap64 ((wrap64 (t377 * t377)) + (wrap64 (t378 * t378)))) 1000000000).bind fun bt404 => (if (wrap64 (t394 + bt398.1)) ≤ bt404.1 then (some (decide ((wrap64 (t395 + bt398.2.1)) ≥ bt402.1))) else (some false))))) = some r := H
     have A74 := Aside0.mk A740
     clear A740
     replace H := Option.bind_eq_some_iff.mp H
     obtain ⟨⟨t398, t399, t400⟩, A750, H⟩ := H
     replace H : ((impl_NumDown.f (wrap64 ((wrap64 (t377 * t377)) + (wrap64 (t378 * t378)))) 1000000000).bind fun bt402 => ((impl_NumUp.f (wrap64 ((wrap64 (t377 * t377)) + (wrap64 (t378 * t378)))) 1000000000).bind fun bt404 => (if (wrap64 (t394 + t398)) ≤ bt404.1 then (some (decide ((wrap64 (t395 + t399)) ≥ bt402.1))) else (some false)))) = some r := H
     have A75 := Aside0.mk A750
     clear A750
     replace H := Option.bind_eq_some_iff.mp H
     obtain ⟨⟨t402, t403⟩, A760, H⟩ := H
     replace H : ((impl_NumUp.f (wrap64 ((wrap64 (t377 * t377)) + (wrap64 (t378 * t378)))) 1000000000).bind fun bt404 => (if (wrap64 (t394 + t398)) ≤ bt404.1 then (some (decide ((wrap64 (t395 + t399)) ≥ t402))) else (some false))) = some r := H
     have A76 := Aside0.mk A760
     clear A760
     replace H := Option.bind_eq_some_iff.mp H
     obtain ⟨⟨t404, t405⟩, A770, H⟩ := H
     replace H : (if (wrap64 (t394 + t398)) ≤ t404 then (some (decide ((wrap64 (t395 + t399)) ≥ t402))) else (some false)) = some r := H
     have A77 := Aside0.mk A770
     clear A770
     by_cases c78 : (wrap64 (t394 + t398)) ≤ t404
     ·rw [if_pos c78] at H
      have c78b0 : decide ((wrap64 (t394 + t398)) ≤ t404) = true := decide_eq_true c78
      clear c78
      obtain rfl := Option.some.inj H
      have hnb79 := NB392_385.out
      have hnc79 := NB385_392.out
      have hnb80 := NB392_386.out
      have hnc80 := NB386_392.out
      have hnb81 := NB392_393.out
      have hnc81 := NB393_392.out
      obtain ⟨hcz82_0, hcz82_1, hfz82_0, hfz82_1⟩ := cz2 BK392
      go_wp2_with (first | ((with_reducible refine gate_callee (f := 32) rfl ?_); refine gL 79 Try.func32 #[.agg #[.int .i64 t387, .int .i64 t388], .agg #[.int .i64 t387, .int .i64 t388]] ?_; (with_reducible refine (impl_SpanMul.calls kj5 t387 t388 t387 t388 t394 t395 t396 _ A74.out).mono ?_); rintro e w83 ⟨rfl, hb⟩; refine ⟨_, rfl, ?_⟩; replace BK385 := bb (bk BK385) hb; replace BK386 := bb (bk BK386) hb; replace BK392 := bb (bk BK392) hb; replace BK393 := bb (bk BK393) hb; replace HB := hbb (hs_ HB) hb; clear hb) | ((with_reducible refine gate_dst (N := 12) rfl ?_); refine bE 12 #[.int .i64 0, .int .i64 0] 23 ?_; intro gb397 hg w84 hbox hb; have BK397 := Aside0.mk (hbox); have GE397 := gw hg (hs_ HB); have GW397 := GE397; have NB385_397 := nl hg (bk BK385); have NB397_385 := ng hg (bk BK385); have NB386_397 := nl hg (bk BK386); have NB397_386 := ng hg (bk BK386); have NB392_397 := nl hg (bk BK392); have NB397_392 := ng hg (bk BK392); have NB393_397 := nl hg (bk BK393); have NB397_393 := ng hg (bk BK393); replace BK385 := bb (bk BK385) hb; replace BK386 := bb (bk BK386) hb; replace BK392 := bb (bk BK392) hb; replace BK393 := bb (bk BK393) hb; replace HB := hbb (hs_ HB) hb; clear hb hbox hg; have hnb85 := NB397_385.out; have hnc85 := NB385_397.out; have hnb86 := NB397_386.out; have hnc86 := NB386_397.out; have hnb87 := NB397_392.out; have hnc87 := NB392_397.out; have hnb88 := NB397_393.out; have hnc88 := NB393_397.out; obtain ⟨hcz89_0, hcz89_1, hfz89_0, hfz89_1⟩ := cz2 BK397; have hnb90 := NB393_385.out; have hnc90 := NB385_393.out; have hnb91 := NB393_386.out; have hnc91 := NB386_393.out; obtain ⟨hcz92_0, hcz92_1, hfz92_0, hfz92_1⟩ := cz2 BK393) | ((with_reducible refine gate_callee (f := 32) rfl ?_); refine gL 85 Try.func32 #[.agg #[.int .i64 t389, .int .i64 t390], .agg #[.int .i64 t389, .int .i64 t390]] ?_; (with_reducible refine (impl_SpanMul.calls kj5 t389 t390 t389 t390 t398 t399 t400 _ A75.out).mono ?_); rintro e w93 ⟨rfl, hb⟩; refine ⟨_, rfl, ?_⟩; replace BK385 := bb (bk1 BK385 NB385_397) hb; replace BK386 := bb (bk1 BK386 NB386_397) hb; replace BK392 := bb (bk1 BK392 NB392_397) hb; replace BK393 := bb (bk1 BK393 NB393_397) hb; replace BK397 := bb (o := .cells #[.int .i64 t394, .int .i64 t395] 23 (0, 0)) (bkp BK397) hb; replace HB := hbb (hs_ HB) hb; clear hb) | ((with_reducible refine gate_dst (N := 14) rfl ?_); refine bE 14 #[.int .i64 0, .int .i64 0] 23 ?_; intro gb401 hg w94 hbox hb; have BK401 := Aside0.mk (hbox); have GE401 := gw hg (hs_ HB); have GW401 := GE401; have NB385_401 := nl hg (bk BK385); have NB401_385 := ng hg (bk BK385); have NB386_401 := nl hg (bk BK386); have NB401_386 := ng hg (bk BK386); have NB392_401 := nl hg (bk BK392); have NB401_392 := ng hg (bk BK392); have NB393_401 := nl hg (bk BK393); have NB401_393 := ng hg (bk BK393); have NB397_401 := nl hg (bk BK397); have NB401_397 := ng hg (bk BK397); replace BK385 := bb (bk BK385) hb; replace BK386 := bb (bk BK386) hb; replace BK392 := bb (bk BK392) hb; replace BK393 := bb (bk BK393) hb; replace BK397 := bb (bk BK397) hb; replace HB := hbb (hs_ HB) hb; clear hb hbox hg; have hnb95 := NB401_385.out; have hnc95 := NB385_401.out; have hnb96 := NB401_386.out; have hnc96 := NB386_401.out; have hnb97 := NB401_392.out; have hnc97 := NB392_401.out; have hnb98 := NB401_393.out; have hnc98 := NB393_401.out; have hnb99 := NB401_397.out; have hnc99 := NB397_401.out; obtain ⟨hcz100_0, hcz100_1, hfz100_0, hfz100_1⟩ := cz2 BK401) | ((with_reducible refine gate_callee (f := 33) rfl ?_); refine gL 97 Try.func33 #[.int .i64 (wrap64 ((wrap64 (t377 * t377)) + (wrap64 (t378 * t378)))), .int .i64 1000000000] ?_; (with_reducible refine (impl_NumDown.calls (wrap64 ((wrap64 (t377 * t377)) + (wrap64 (t378 * t378)))) 1000000000 t402 t403 _ A76.out).mono ?_); rintro e w' ⟨rfl, ⟨nd, rfl⟩⟩; refine ⟨_, rfl, ?_⟩) | ((with_reducible refine gate_callee (f := 34) rfl ?_); refine gL 102 Try.func34 #[.int .i64 (wrap64 ((wrap64 (t377 * t377)) + (wrap64 (t378 * t378)))), .int .i64 1000000000] ?_; (with_reducible refine (impl_NumUp.calls (wrap64 ((wrap64 (t377 * t377)) + (wrap64 (t378 * t378)))) 1000000000 t404 t405 _ A77.out).mono ?_); rintro e w' ⟨rfl, ⟨nd, rfl⟩⟩; refine ⟨_, rfl, ?_⟩; obtain ⟨hcz101_0, hcz101_1, hfz101_0, hfz101_1⟩ := cz2 BK397))
      go_ret
      exact ⟨by first | rfl | (simp [errW_none, errW_some] <;> rfl) | (simp [*, errW_none, errW_some] <;> rfl), hs_ HB⟩
     ·rw [if_neg c78] at H
      have c78b0 : decide ((wrap64 (t394 + t398)) ≤ t404) = false := decide_eq_false c78
      clear c78
      obtain rfl := Option.some.inj H
      have hnb102 := NB392_385.out
      have hnc102 := NB385_392.out
      have hnb103 := NB392_386.out
      have hnc103 := NB386_392.out
      have hnb104 := NB392_393.out
      have hnc104 := NB393_392.out
      obtain ⟨hcz105_0, hcz105_1, hfz105_0, hfz105_1⟩ := cz2 BK392
      go_wp2_with (first | ((with_reducible refine gate_callee (f := 32) rfl ?_); refine gL 79 Try.func32 #[.agg #[.int .i64 t387, .int .i64 t388], .agg #[.int .i64 t387, .int .i64 t388]] ?_; (with_reducible refine (impl_SpanMul.calls kj5 t387 t388 t387 t388 t394 t395 t396 _ A74.out).mono ?_); rintro e w106 ⟨rfl, hb⟩; refine ⟨_, rfl, ?_⟩; replace BK385 := bb (bk BK385) hb; replace BK386 := bb (bk BK386) hb; replace BK392 := bb (bk BK392) hb; replace BK393 := bb (bk BK393) hb; replace HB := hbb (hs_ HB) hb; clear hb) | ((with_reducible refine gate_dst (N := 12) rfl ?_); refine bE 12 #[.int .i64 0, .int .i64 0] 23 ?_; intro gb397 hg w107 hbox hb; have BK397 := Aside0.mk (hbox); have GE397 := gw hg (hs_ HB); have GW397 := GE397; have NB385_397 := nl hg (bk BK385); have NB397_385 := ng hg (bk BK385); have NB386_397 := nl hg (bk BK386); have NB397_386 := ng hg (bk BK386); have NB392_397 := nl hg (bk BK392); have NB397_392 := ng hg (bk BK392); have NB393_397 := nl hg (bk BK393); have NB397_393 := ng hg (bk BK393); replace BK385 := bb (bk BK385) hb; replace BK386 := bb (bk BK386) hb; replace BK392 := bb (bk BK392) hb; replace BK393 := bb (bk BK393) hb; replace HB := hbb (hs_ HB) hb; clear hb hbox hg; have hnb108 := NB397_385.out; have hnc108 := NB385_397.out; have hnb109 := NB397_386.out; have hnc109 := NB386_397.out; have hnb110 := NB397_392.out; have hnc110 := NB392_397.out; have hnb111 := NB397_393.out; have hnc111 := NB393_397.out; obtain ⟨hcz112_0, hcz112_1, hfz112_0, hfz112_1⟩ := cz2 BK397; have hnb113 := NB393_385.out; have hnc113 := NB385_393.out; have hnb114 := NB393_386.out; have hnc114 := NB386_393.out; obtain ⟨hcz115_0, hcz115_1, hfz115_0, hfz115_1⟩ := cz2 BK393) | ((with_reducible refine gate_callee (f := 32) rfl ?_); refine gL 85 Try.func32 #[.agg #[.int .i64 t389, .int .i64 t390], .agg #[.int .i64 t389, .int .i64 t390]] ?_; (with_reducible refine (impl_SpanMul.calls kj5 t389 t390 t389 t390 t398 t399 t400 _ A75.out).mono ?_); rintro e w116 ⟨rfl, hb⟩; refine ⟨_, rfl, ?_⟩; replace BK385 := bb (bk1 BK385 NB385_397) hb; replace BK386 := bb (bk1 BK386 NB386_397) hb; replace BK392 := bb (bk1 BK392 NB392_397) hb; replace BK393 := bb (bk1 BK393 NB393_397) hb; replace BK397 := bb (o := .cells #[.int .i64 t394, .int .i64 t395] 23 (0, 0)) (bkp BK397) hb; replace HB := hbb (hs_ HB) hb; clear hb) | ((with_reducible refine gate_dst (N := 14) rfl ?_); refine bE 14 #[.int .i64 0, .int .i64 0] 23 ?_; intro gb401 hg w117 hbox hb; have BK401 := Aside0.mk (hbox); have GE401 := gw hg (hs_ HB); have GW401 := GE401; have NB385_401 := nl hg (bk BK385); have NB401_385 := ng hg (bk BK385); have NB386_401 := nl hg (bk BK386); have NB401_386 := ng hg (bk BK386); have NB392_401 := nl hg (bk BK392); have NB401_392 := ng hg (bk BK392); have NB393_401 := nl hg (bk BK393); have NB401_393 := ng hg (bk BK393); have NB397_401 := nl hg (bk BK397); have NB401_397 := ng hg (bk BK397); replace BK385 := bb (bk BK385) hb; replace BK386 := bb (bk BK386) hb; replace BK392 := bb (bk BK392) hb; replace BK393 := bb (bk BK393) hb; replace BK397 := bb (bk BK397) hb; replace HB := hbb (hs_ HB) hb; clear hb hbox hg; have hnb118 := NB401_385.out; have hnc118 := NB385_401.out; have hnb119 := NB401_386.out; have hnc119 := NB386_401.out; have hnb120 := NB401_392.out; have hnc120 := NB392_401.out; have hnb121 := NB401_393.out; have hnc121 := NB393_401.out; have hnb122 := NB401_397.out; have hnc122 := NB397_401.out; obtain ⟨hcz123_0, hcz123_1, hfz123_0, hfz123_1⟩ := cz2 BK401) | ((with_reducible refine gate_callee (f := 33) rfl ?_); refine gL 97 Try.func33 #[.int .i64 (wrap64 ((wrap64 (t377 * t377)) + (wrap64 (t378 * t378)))), .int .i64 1000000000] ?_; (with_reducible refine (impl_NumDown.calls (wrap64 ((wrap64 (t377 * t377)) + (wrap64 (t378 * t378)))) 1000000000 t402 t403 _ A76.out).mono ?_); rintro e w' ⟨rfl, ⟨nd, rfl⟩⟩; refine ⟨_, rfl, ?_⟩) | ((with_reducible refine gate_callee (f := 34) rfl ?_); refine gL 102 Try.func34 #[.int .i64 (wrap64 ((wrap64 (t377 * t377)) + (wrap64 (t378 * t378)))), .int .i64 1000000000] ?_; (with_reducible refine (impl_NumUp.calls (wrap64 ((wrap64 (t377 * t377)) + (wrap64 (t378 * t378)))) 1000000000 t404 t405 _ A77.out).mono ?_); rintro e w' ⟨rfl, ⟨nd, rfl⟩⟩; refine ⟨_, rfl, ?_⟩; obtain ⟨hcz124_0, hcz124_1, hfz124_0, hfz124_1⟩ := cz2 BK397))
      go_ret
      exact ⟨by first | rfl | (simp [errW_none, errW_some] <;> rfl) | (simp [*, errW_none, errW_some] <;> rfl), hs_ HB⟩


/-- A list of bytes. -/
def Bytes (l : List Int) : Prop := ∀ x ∈ l, 0 ≤ x ∧ x < 256
theorem bytes_of {l : List Int} (h : ∀ x ∈ l, (Lit.int .u8 x).wf = true) : Bytes l := by
  intro x hx
  have := h x hx
  simp [Lit.wf, IntKind.min, IntKind.max, IntKind.bits, IntKind.signed] at this
  omega
theorem Bytes.at_ {l : List Int} (h : Bytes l) (i : Int) : 0 ≤ rd l i ∧ rd l i < 256 := by
  unfold rd
  rw [List.getD_eq_getElem?_getD]
  rcases Nat.lt_or_ge i.toNat l.length with h1 | h1
  · rw [List.getElem?_eq_getElem h1]
    exact h _ (List.getElem_mem h1)
  · rw [List.getElem?_eq_none h1]; simp
theorem bits_xor {a b : Int} (ha : 0 ≤ a) (ha2 : a < 1099511627776) (hb : 0 ≤ b) (hb2 : b < 1099511627776) : 0 ≤ Go.bits .xor .i64 a b ∧ Go.bits .xor .i64 a b < 1099511627776 := by
  obtain ⟨a, rfl⟩ := Int.eq_ofNat_of_zero_le ha
  obtain ⟨b, rfl⟩ := Int.eq_ofNat_of_zero_le hb
  have h := Nat.xor_lt_two_pow (n := 40) (x := a) (y := b) (by omega) (by omega)
  have ea : a % 2 ^ 64 = a := Nat.mod_eq_of_lt (by omega)
  have eb : b % 2 ^ 64 = b := Nat.mod_eq_of_lt (by omega)
  have e : Go.bits .xor .i64 (a : Int) (b : Int) = ((a ^^^ b : Nat) : Int) := by
    show IntKind.i64.wrap ((BitVec.ofInt 64 (a : Int) ^^^ BitVec.ofInt 64 (b : Int)).toNat : Nat) = _
    rw [BitVec.ofInt_natCast, BitVec.ofInt_natCast, BitVec.toNat_xor, BitVec.toNat_ofNat, BitVec.toNat_ofNat, ea, eb, IntKind.wrap_i64]
    omega
  rw [e]
  omega
theorem tmod_bd {a n : Int} (ha : 0 ≤ a) (hn : 0 < n) : 0 ≤ Int.tmod a n ∧ Int.tmod a n < n :=
  ⟨Int.tmod_nonneg _ ha, Int.tmod_lt_of_pos _ hn⟩
theorem pick_tells {b : List Int} (hb : Bytes b) (hl : b.length ≤ 2000) {p n : Int} (hp : 0 ≤ p) (hp2 : p < 1000000) (hn : n < 1073741824) {k : Nat} (hk : 1 ≤ k) :
    ∃ v, spec_l6Rd_pick.f k b p n = some (v, p + 1) ∧ 0 ≤ v ∧ (v < n ∨ n < 1 ∧ v = 0) := by
  obtain ⟨k, rfl⟩ : ∃ m, k = m + 1 := ⟨k - 1, by omega⟩
  unfold spec_l6Rd_pick.f
  rw [w64 (x := p + 1) (by omega) (by omega)]
  by_cases h1 : n < 1
  · rw [if_pos h1]
    exact ⟨0, by simp [spec_l6Rd_pick.j0], by omega, .inr ⟨h1, rfl⟩⟩
  rw [if_neg h1]
  by_cases h2 : (b.length : Int) = 0
  · exact ⟨0, by simp [spec_l6Rd_pick.j0, h2], by omega, .inl (by omega)⟩
  have h2b : ((b.length : Int) == 0) = false := by simpa using h2
  rw [h2b]
  simp only [spec_l6Rd_pick.j0]
  rw [if_neg (by decide), Int.add_sub_cancel, w64 (x := p) (by omega) (by omega)]
  have hn0 : ¬ n = 0 := by omega
  by_cases h3 : p < (b.length : Int)
  · rw [if_pos h3, if_pos hp, if_neg hn0]
    have hr := hb.at_ p
    rw [w64 (by omega) (by omega)]
    have := tmod_bd hr.1 (show 0 < n by omega)
    exact ⟨_, rfl, this.1, .inl this.2⟩
  · rw [if_neg h3, if_neg h2]
    have t1 := tmod_bd hp (show 0 < (b.length : Int) by omega)
    have e1 : wrap64 (wrap64 (p * 7) + 3) = p * 7 + 3 := by rw [w64 (x := p * 7) (by omega) (by omega)]; exact w64 (by omega) (by omega)
    have t2 := tmod_bd (show 0 ≤ p * 7 + 3 by omega) (show 0 < (b.length : Int) by omega)
    have r1 := hb.at_ (Int.tmod p (b.length : Int))
    have r2 := hb.at_ (Int.tmod (p * 7 + 3) (b.length : Int))
    have q := Int.tdiv_nonneg hp (show 0 ≤ (b.length : Int) by omega)
    have q2 : Int.tdiv p (b.length : Int) ≤ p := by
      rw [Int.tdiv_eq_ediv_of_nonneg hp]
      exact Int.ediv_le_self _ hp
    rw [if_pos t1.1, if_pos t1.2, e1, if_pos t2.1, if_pos t2.2, if_neg hn0]
    generalize rd b (Int.tmod p (b.length : Int)) = u at r1 ⊢
    generalize rd b (Int.tmod (p * 7 + 3) (b.length : Int)) = v at r2 ⊢
    generalize Int.tdiv p (b.length : Int) = c at q q2 ⊢
    have e2 : wrap64 (wrap64 (wrap64 (wrap64 (wrap64 u * 131) + wrap64 (wrap64 v * 1117)) + wrap64 (p * 29)) + wrap64 (wrap64 c * 53)) = u * 131 + v * 1117 + p * 29 + c * 53 := by
      rw [w64 (x := u) (by omega) (by omega), w64 (x := v) (by omega) (by omega), w64 (x := c) (by omega) (by omega), w64 (x := u * 131) (by omega) (by omega), w64 (x := v * 1117) (by omega) (by omega), w64 (x := p * 29) (by omega) (by omega),
        w64 (x := c * 53) (by omega) (by omega), w64 (x := u * 131 + v * 1117) (by omega) (by omega), w64 (x := u * 131 + v * 1117 + p * 29) (by omega) (by omega)]
      exact w64 (by omega) (by omega)
    rw [e2]
    generalize hx : u * 131 + v * 1117 + p * 29 + c * 53 = x
    have hx0 : 0 ≤ x := by omega
    have hx1 : x < 1000000000 := by omega
    have e3 : wrap64 (Int.tdiv x 64) = x / 64 := by rw [Int.tdiv_eq_ediv_of_nonneg hx0]; exact w64 (by omega) (by omega)
    rw [e3]
    have hb3 := bits_xor hx0 (by omega) (show 0 ≤ x / 64 by omega) (by omega)
    have := tmod_bd hb3.1 (show 0 < n by omega)
    exact ⟨_, rfl, this.1, .inl this.2⟩
/-- A number at most so far from 0, or a little below it. -/
theorem big_j1 {b : List Int} (hb : Bytes b) (hl : b.length ≤ 2000) {p m x : Int} (hp : 0 ≤ p) (hp2 : p < 999990) (hm : 3 ≤ m) (hm2 : m ≤ 1152921504606846976) (hx : -3 ≤ x) (hx2 : x ≤ 1152921504606846976) {k : Nat} (hk : 3 ≤ k) :
    ∃ v p', spec_l71Big.j1 k m x b p = some (v, p') ∧ -m ≤ v ∧ v ≤ m ∧ p ≤ p' ∧ p' ≤ p + 1 := by
  obtain ⟨k, rfl⟩ : ∃ m, k = m + 1 := ⟨k - 1, by omega⟩
  simp only [spec_l71Big.j1]
  by_cases h : x < 0
  · rw [if_pos h]; exact ⟨_, _, rfl, by omega, by omega, by omega, by omega⟩
  rw [if_neg h, w64 (x := m + 1) (by omega) (by omega), if_neg (by omega)]
  obtain ⟨v, h1, h2, h3⟩ := pick_tells hb hl hp (show p < 1000000 by omega) (show (2 : Int) < 1073741824 by omega) (k := k) (by omega)
  rw [h1]; simp only [Option.bind_some]
  have t := tmod_bd (show 0 ≤ x by omega) (show 0 < m + 1 by omega)
  rw [w64 (x := -(Int.tmod x (m + 1))) (by omega) (by omega)]
  split
  · exact ⟨_, _, rfl, by omega, by omega, by omega, by omega⟩
  · exact ⟨_, _, rfl, by omega, by omega, by omega, by omega⟩
theorem big_l0 {b : List Int} (hb : Bytes b) (hl : b.length ≤ 2000) {m : Int} (hm : 3 ≤ m) (hm2 : m ≤ 1152921504606846976) (d : Nat) : ∀ (k : Nat) (p i n : Int), 0 ≤ p → p + d < 999985 → 0 ≤ i → 4 - i = d → 0 ≤ n →
    (i = 0 → n = 0) → (i = 1 → n < 32768) → (i = 2 → n < 1073741824) → (i = 3 → n < 35184372088832) → (i = 4 → n < 1152921504606846976) → d + 5 < k →
    ∃ v p', spec_l71Big.l0 k m n i b p = some (v, p') ∧ -m ≤ v ∧ v ≤ m ∧ p ≤ p' ∧ p' ≤ p + d + 1 := by
  induction d with
  | zero =>
    intro k p i n hp hp2 hi hd hn h0 h1 h2 h3 h4 hk
    obtain ⟨k, rfl⟩ : ∃ m, k = m + 1 := ⟨k - 1, by omega⟩
    simp only [spec_l71Big.l0]
    rw [if_neg (by omega)]
    obtain ⟨v, p', a, b1, c, d1, e⟩ := big_j1 hb hl hp (show p < 999990 by omega) hm hm2 (show -3 ≤ n by omega) (show n ≤ _ by have := h4 (by omega); omega) (k := k) (by omega)
    exact ⟨v, p', a, b1, c, d1, by omega⟩
  | succ d ih =>
    intro k p i n hp hp2 hi hd hn h0 h1 h2 h3 h4 hk
    obtain ⟨k, rfl⟩ : ∃ m, k = m + 1 := ⟨k - 1, by omega⟩
    simp only [spec_l71Big.l0]
    rw [if_pos (by omega)]
    obtain ⟨v, q1, q2, q3⟩ := pick_tells hb hl hp (show p < 1000000 by omega) (show (32768 : Int) < 1073741824 by omega) (k := k) (by omega)
    rw [q1]; simp only [Option.bind_some]
    have hn2 : n < 35184372088832 := by
      rcases (show i = 0 ∨ i = 1 ∨ i = 2 ∨ i = 3 by omega) with e | e | e | e
      · have := h0 e; omega
      · have := h1 e; omega
      · have := h2 e; omega
      · exact h3 e
    have e : wrap64 (wrap64 (n * 32768) + v) = n * 32768 + v := by rw [w64 (x := n * 32768) (by omega) (by omega)]; exact w64 (by omega) (by omega)
    rw [e, w64 (x := i + 1) (by omega) (by omega)]
    obtain ⟨v', p', a, b1, c, d1, e⟩ := ih k (p + 1) (i + 1) (n * 32768 + v) (by omega) (by omega) (by omega) (by omega) (by omega) (by omega)
      (fun z => by have := h0 (by omega); omega) (fun z => by have := h1 (by omega); omega) (fun z => by have := h2 (by omega); omega) (fun z => by have := h3 (by omega); omega) (by omega)
    exact ⟨v', p', a, b1, c, by omega, by omega⟩
theorem big_tells {b : List Int} (hb : Bytes b) (hl : b.length ≤ 2000) {p m : Int} (hp : 0 ≤ p) (hp2 : p < 999970) (hm : 3 ≤ m) (hm2 : m ≤ 1152921504606846976) {k : Nat} (hk : 15 ≤ k) :
    ∃ v p', spec_l71Big.f k b p m = some (v, p') ∧ -m ≤ v ∧ v ≤ m ∧ p ≤ p' ∧ p' ≤ p + 8 := by
  unfold spec_l71Big.f
  obtain ⟨v, q1, q2, q3⟩ := pick_tells hb hl hp (show p < 1000000 by omega) (show (6 : Int) < 1073741824 by omega) (k := k) (by omega)
  rw [q1]; simp only [Option.bind_some]
  by_cases c0 : v = 0
  · rw [if_pos c0]
    obtain ⟨u, r1, r2, r3⟩ := pick_tells hb hl (show 0 ≤ p + 1 by omega) (show p + 1 < 1000000 by omega) (show (7 : Int) < 1073741824 by omega) (k := k) (by omega)
    rw [r1]; simp only [Option.bind_some]
    rw [w64 (x := u - 3) (by omega) (by omega)]
    obtain ⟨v, p', a, b1, c, d1, e⟩ := big_j1 hb hl (show 0 ≤ p + 1 + 1 by omega) (show p + 1 + 1 < 999990 by omega) hm hm2 (show -3 ≤ u - 3 by omega) (by omega) (k := k) (by omega)
    exact ⟨v, p', a, b1, c, by omega, by omega⟩
  rw [if_neg c0]
  by_cases c1 : v = 1
  · rw [if_pos c1]
    obtain ⟨u, r1, r2, r3⟩ := pick_tells hb hl (show 0 ≤ p + 1 by omega) (show p + 1 < 1000000 by omega) (show (3 : Int) < 1073741824 by omega) (k := k) (by omega)
    rw [r1]; simp only [Option.bind_some]
    rw [w64 (x := m - u) (by omega) (by omega)]
    obtain ⟨v, p', a, b1, c, d1, e⟩ := big_j1 hb hl (show 0 ≤ p + 1 + 1 by omega) (show p + 1 + 1 < 999990 by omega) hm hm2 (show -3 ≤ m - u by omega) (by omega) (k := k) (by omega)
    exact ⟨v, p', a, b1, c, by omega, by omega⟩
  rw [if_neg c1]
  by_cases c2 : v = 2
  · rw [if_pos c2]
    obtain ⟨u, r1, r2, r3⟩ := pick_tells hb hl (show 0 ≤ p + 1 by omega) (show p + 1 < 1000000 by omega) (show (1048576 : Int) < 1073741824 by omega) (k := k) (by omega)
    rw [r1]; simp only [Option.bind_some]
    obtain ⟨v, p', a, b1, c, d1, e⟩ := big_j1 hb hl (show 0 ≤ p + 1 + 1 by omega) (show p + 1 + 1 < 999990 by omega) hm hm2 (show -3 ≤ u by omega) (by omega) (k := k) (by omega)
    exact ⟨v, p', a, b1, c, by omega, by omega⟩
  rw [if_neg c2]
  obtain ⟨v, p', a, b1, c, d1, e⟩ := big_l0 hb hl hm hm2 4 k (p + 1) 0 0 (by omega) (by omega) (by omega) (by omega) (by omega) (by omega) (by omega) (by omega) (by omega) (by omega) (by omega)
  exact ⟨v, p', a, b1, c, by omega, by omega⟩
theorem open_tells {l : List Int} (hl : Bytes l) : ∃ b, spec_l6Open.f l = some (b, 0) ∧ Bytes b ∧ b.length ≤ 2000 := by
  unfold spec_l6Open.f
  by_cases h : (l.length : Int) > 2000
  · rw [if_pos h, if_pos (by omega)]
    exact ⟨_, rfl, fun x hx => hl x (List.mem_of_mem_take hx), by simp; omega⟩
  · rw [if_neg h]
    exact ⟨_, rfl, hl, by omega⟩
theorem tdiv6_bd {x A : Int} (h1 : -A ≤ x) (h2 : x ≤ A) : -A ≤ Int.tdiv x 6 ∧ Int.tdiv x 6 ≤ A := by
  rcases Int.le_total 0 x with h | h
  · rw [Int.tdiv_eq_ediv_of_nonneg h]; omega
  · obtain ⟨c, rfl⟩ : ∃ c, x = -c := ⟨-x, by omega⟩
    rw [Int.neg_tdiv, Int.tdiv_eq_ediv_of_nonneg (show 0 ≤ c by omega)]; omega
theorem ang_tells {b : List Int} (hb : Bytes b) (hl : b.length ≤ 2000) {p : Int} (hp : 0 ≤ p) (hp2 : p < 999800) {k : Nat} (hk : 20 ≤ k) :
    ∃ v p', spec_l71Ang.f k b p = some (v, p') ∧ -1000000000 ≤ v ∧ v ≤ 1000000000 ∧ p ≤ p' ∧ p' ≤ p + 9 := by
  unfold spec_l71Ang.f
  obtain ⟨v, q1, q2, q3⟩ := pick_tells hb hl hp (show p < 1000000 by omega) (show (6 : Int) < 1073741824 by omega) (k := k) (by omega)
  rw [q1]; simp only [Option.bind_some]
  by_cases c0 : v = 0
  · rw [if_pos c0]
    obtain ⟨u, r1, r2, r3⟩ := pick_tells hb hl (show 0 ≤ p + 1 by omega) (by omega) (show (49 : Int) < 1073741824 by omega) (k := k) (by omega)
    rw [r1]; simp only [Option.bind_some]
    rw [w64 (x := u - 24) (by omega) (by omega), w64 (x := (u - 24) * 32400000) (by omega) (by omega)]
    have t := tdiv6_bd (x := (u - 24) * 32400000) (A := 810000000) (by omega) (by omega)
    rw [w64 (by omega) (by omega)]
    exact ⟨_, _, rfl, by omega, by omega, by omega, by omega⟩
  rw [if_neg c0]
  by_cases c1 : v = 1
  · rw [if_pos c1]
    obtain ⟨u, r1, r2, r3⟩ := pick_tells hb hl (show 0 ≤ p + 1 by omega) (by omega) (show (721 : Int) < 1073741824 by omega) (k := k) (by omega)
    rw [r1]; simp only [Option.bind_some]
    rw [w64 (x := u - 360) (by omega) (by omega), w64 (x := (u - 360) * 360000) (by omega) (by omega)]
    exact ⟨_, _, rfl, by omega, by omega, by omega, by omega⟩
  rw [if_neg c1]
  by_cases c2 : v = 2
  · rw [if_pos c2]
    obtain ⟨u, r1, r2, r3⟩ := pick_tells hb hl (show 0 ≤ p + 1 by omega) (by omega) (show (13 : Int) < 1073741824 by omega) (k := k) (by omega)
    rw [r1]; simp only [Option.bind_some]
    obtain ⟨x, s1, s2, s3⟩ := pick_tells hb hl (show 0 ≤ p + 1 + 1 by omega) (by omega) (show (5 : Int) < 1073741824 by omega) (k := k) (by omega)
    rw [s1]; simp only [Option.bind_some]
    rw [w64 (x := u - 6) (by omega) (by omega), w64 (x := (u - 6) * 32400000) (by omega) (by omega), w64 (x := (u - 6) * 32400000 + x) (by omega) (by omega), w64 (by omega) (by omega)]
    exact ⟨_, _, rfl, by omega, by omega, by omega, by omega⟩
  rw [if_neg c2]
  obtain ⟨u, p', r1, r2, r3, r4, r5⟩ := big_tells hb hl (show 0 ≤ p + 1 by omega) (by omega) (show (3 : Int) ≤ 129600000 by omega) (by omega) (k := k) (by omega)
  rw [r1]; simp only [Option.bind_some]
  exact ⟨_, _, rfl, by omega, by omega, by omega, by omega⟩
theorem wide_tells {b : List Int} (hb : Bytes b) (hl : b.length ≤ 2000) {p : Int} (hp : 0 ≤ p) (hp2 : p < 999700) {k : Nat} (hk : 20 ≤ k) :
    ∃ v p', spec_l71Wide.f k b p = some (v, p') ∧ -1000000000001 ≤ v ∧ v ≤ 1000000000001 := by
  unfold spec_l71Wide.f
  obtain ⟨v, q1, q2, q3⟩ := pick_tells hb hl hp (show p < 1000000 by omega) (show (16 : Int) < 1073741824 by omega) (k := k) (by omega)
  rw [q1]; simp only [Option.bind_some]
  by_cases c0 : v = 0
  · rw [if_pos c0]
    obtain ⟨u, p', r1, r2, r3, r4, r5⟩ := big_tells hb hl (show 0 ≤ p + 1 by omega) (by omega) (show (3 : Int) ≤ 1000000000000 by omega) (by omega) (k := k) (by omega)
    rw [r1]; simp only [Option.bind_some]
    exact ⟨_, _, rfl, by omega, by omega⟩
  rw [if_neg c0]
  by_cases c1 : v = 1
  · rw [if_pos c1]
    obtain ⟨u, r1, r2, r3⟩ := pick_tells hb hl (show 0 ≤ p + 1 by omega) (by omega) (show (3 : Int) < 1073741824 by omega) (k := k) (by omega)
    rw [r1]; simp only [Option.bind_some]
    rw [if_pos r2, if_pos (by simp; omega)]
    have hu : u = 0 ∨ u = 1 ∨ u = 2 := by omega
    refine ⟨_, _, rfl, ?_, ?_⟩ <;> (rcases hu with h | h | h <;> subst h <;> decide)
  rw [if_neg c1]
  obtain ⟨u, p', r1, r2, r3, r4, r5⟩ := ang_tells hb hl (show 0 ≤ p + 1 by omega) (by omega) (k := k) hk
  rw [r1]; simp only [Option.bind_some]
  exact ⟨_, _, rfl, by omega, by omega⟩
theorem drawTurnBy_tells {l : List Int} (hl : Bytes l) {k : Nat} (hk : 20 ≤ k) : ∃ u r a, spec_DrawTurnBy.f k l = some (u, r, a) ∧ -1000000000001 ≤ a ∧ a ≤ 1000000000001 := by
  unfold spec_DrawTurnBy.f
  obtain ⟨b, h1, h2, h3⟩ := open_tells hl
  rw [h1]; simp only [Option.bind_some]
  obtain ⟨u, p, q1, q2, q3, q4, q5⟩ := big_tells h2 h3 (show (0 : Int) ≤ 0 by omega) (by omega) (show (3 : Int) ≤ 500000000 by omega) (by omega) (k := k) (by omega)
  rw [q1]; simp only [Option.bind_some]
  obtain ⟨v, r1, r2⟩ := pick_tells h2 h3 (show 0 ≤ p by omega) (by omega) (show (20 : Int) < 1073741824 by omega) (k := k) (by omega)
  rw [r1]; simp only [Option.bind_some]
  obtain ⟨u', p', s1, s2, s3, s4, s5⟩ := big_tells h2 h3 (show 0 ≤ p + 1 by omega) (by omega) (show (3 : Int) ≤ 500000000 by omega) (by omega) (k := k) (by omega)
  rw [s1]; simp only [Option.bind_some]
  obtain ⟨a, p2, t1, t2, t3⟩ := wide_tells h2 h3 (show 0 ≤ p' by omega) (by omega) (k := k) hk
  rw [t1]; simp only [Option.bind_some]
  split <;> exact ⟨_, _, _, rfl, t2, t3⟩
/-! ### numbers rounded -/
def evenM (a b : Int) : Int := if a - a / b * b > b - (a - a / b * b) then a / b + 1 else if a - a / b * b = b - (a - a / b * b) then (if Int.tmod (a / b) 2 = 0 then a / b else a / b + 1) else a / b
def roundM (a b way : Int) : Int := if way = 2 then upd a b else if way = 3 then Int.tdiv a b else if way = 4 then evenM a b else a / b
theorem div_rest {a b : Int} (hb : 0 < b) : 0 ≤ a - a / b * b ∧ a - a / b * b < b := by
  have e := Int.mul_ediv_add_emod a b
  have e2 : b * (a / b) = a / b * b := Int.mul_comm _ _
  have r0 := Int.emod_nonneg a (show b ≠ 0 by omega)
  have r1 := Int.emod_lt_of_pos a hb
  omega
theorem NumRound_is {a b way : Int} (ha : -1152921504606846976 ≤ a) (ha2 : a ≤ 1152921504606846976) (hb : 1 ≤ b) (hb2 : b ≤ 1152921504606846976) (hw : 1 ≤ way) (hw2 : way ≤ 4) :
    impl_NumRound.f a b way = some (roundM a b way, true) := by
  unfold impl_NumRound.f impl_divides.f
  simp only [in_is, Option.bind_some, ha, ha2, hb, hb2, hw, hw2, and_self, decide_true, if_true]
  unfold impl_round.f
  have d := div_bd (a := a) (b := b) (A := 1152921504606846976) (by omega) ha ha2
  have t := div_rest (a := a) (b := b) (by omega)
  have p : -2400000000000000000 ≤ a / b * b ∧ a / b * b ≤ 1152921504606846976 := by omega
  have td : -1152921504606846976 ≤ Int.tdiv a b ∧ Int.tdiv a b ≤ 1152921504606846976 := by
    have x := tdiv_down (a := a) (b := b) (by omega)
    by_cases c : Int.tmod a b < 0
    · have := x.1 c
      rcases Int.lt_or_le (1152921504606846975) (a / b) with g | g
      · have e : a / b = 1152921504606846976 := by omega
        have : b = 1 := by
          rcases Int.lt_or_le 1 b with h | h
          · exfalso
            have : 2 * (a / b) ≤ b * (a / b) := Int.mul_le_mul_of_nonneg_right (by omega) (by omega)
            rw [Int.mul_comm b] at this; omega
          · omega
        subst this
        simp at c
      · omega
    · have := x.2 c; omega
  rw [down_is (by omega) (by omega) (by omega), up_is (by omega) (by omega) (by omega)]
  simp only [Option.bind_some]
  rw [w64 (x := a / b * b) (by omega) (by omega), w64 (x := a - a / b * b) (by omega) (by omega), w64 (x := b - (a - a / b * b)) (by omega) (by omega),
    w64 (x := a / b + 1) (by omega) (by omega), w64 (x := Int.tdiv a b) (by omega) (by omega), if_neg (show ¬ b = 0 by omega)]
  unfold roundM evenM
  by_cases c2 : way = 2
  · simp [c2]
  by_cases c3 : way = 3
  · simp [c3]
  by_cases c4 : way = 4
  · subst c4
    simp only [c2, c3, if_false, if_true]
    split
    · rfl
    split
    · split <;> rfl
    · rfl
  · simp [c2, c3, c4]
/-! ### turned, a way is as long -/
theorem tprod_lo {a b X Y : Rat} (h1 : 0 ≤ a) (h2 : a ≤ X) (h3 : 0 ≤ b) (h4 : b ≤ Y) : a * b ≤ X * Y := by
  have p := Rat.mul_nonneg (show 0 ≤ X - a by grind) (show 0 ≤ Y by grind)
  have q := Rat.mul_nonneg h1 (show 0 ≤ Y - b by grind)
  grind
theorem tcast9 : ((1000000000 : Int) : Rat) = 1000000000 := rfl
theorem turn_red (u r a : Int) : turnUp u r a = turnUp u r (a % 129600000) ∧ turnRight u r a = turnRight u r (a % 129600000) := by
  have e1 : sineM (2 * a) = sineM (2 * (a % 129600000)) := (congrArg sineM (show 2 * a = 2 * (a % 129600000) + 259200000 * (a / 129600000) by omega)).trans (sine_turn _ _)
  have e2 : sineM (2 * a + 64800000) = sineM (2 * (a % 129600000) + 64800000) := (congrArg sineM (show 2 * a + 64800000 = 2 * (a % 129600000) + 64800000 + 259200000 * (a / 129600000) by omega)).trans (sine_turn _ _)
  unfold turnUp turnRight cosM
  rw [e1, e2]
  exact ⟨rfl, rfl⟩
theorem scaled_true {n : Int} {s : Int × Int} {x e : Rat} (h1 : -500000000 ≤ n) (h2 : n ≤ 500000000) (he : 0 ≤ e) (lo : (s.1 : Rat) ≤ 1000000000 * x + e) (hi : 1000000000 * x ≤ (s.2 : Rat) + e) :
    ((mulM (n, n) s).1 : Rat) ≤ n * x + e ∧ n * x ≤ ((mulM (n, n) s).2 : Rat) + e := by
  have d1 : (mulM (n, n) s).1 = min4 (n * s.1) (n * s.2) (n * s.1) (n * s.2) / 1000000000 := rfl
  have d2 : (mulM (n, n) s).2 = upd (max4 (n * s.1) (n * s.2) (n * s.1) (n * s.2)) 1000000000 := rfl
  have a := dn_le (a := min4 (n * s.1) (n * s.2) (n * s.1) (n * s.2)) (b := 1000000000) (by omega)
  have b := upd_ge (a := max4 (n * s.1) (n * s.2) (n * s.1) (n * s.2)) (b := 1000000000) (by omega)
  rw [← d1] at a
  rw [← d2] at b
  clear d1 d2
  have a1 : (mulM (n, n) s).1 * 1000000000 ≤ n * s.1 := by unfold min4 at a; omega
  have a2 : (mulM (n, n) s).1 * 1000000000 ≤ n * s.2 := by unfold min4 at a; omega
  have b1 : n * s.1 ≤ (mulM (n, n) s).2 * 1000000000 := by unfold max4 at b; omega
  have b2 : n * s.2 ≤ (mulM (n, n) s).2 * 1000000000 := by unfold max4 at b; omega
  clear a b
  replace a1 := Rat.intCast_le_intCast.2 a1
  replace a2 := Rat.intCast_le_intCast.2 a2
  replace b1 := Rat.intCast_le_intCast.2 b1
  replace b2 := Rat.intCast_le_intCast.2 b2
  rw [Rat.intCast_mul, Rat.intCast_mul, tcast9] at a1 a2 b1 b2
  have k1 : (-500000000 : Rat) ≤ (n : Rat) := Rat.intCast_le_intCast.2 h1
  have k2 : (n : Rat) ≤ 500000000 := Rat.intCast_le_intCast.2 h2
  generalize ((mulM (n, n) s).1 : Rat) = L at *
  generalize ((mulM (n, n) s).2 : Rat) = H at *
  generalize (s.1 : Rat) = p at *
  generalize (s.2 : Rat) = q at *
  generalize (n : Rat) = m at *
  clear h1 h2
  rcases (Rat.le_total : 0 ≤ m ∨ m ≤ 0) with g | g
  · have m1 := Rat.mul_nonneg g (show 0 ≤ 1000000000 * x + e - p by grind)
    have m2 := Rat.mul_nonneg g (show 0 ≤ q + e - 1000000000 * x by grind)
    have m3 := Rat.mul_nonneg (show 0 ≤ 500000000 - m by grind) he
    constructor <;> grind
  · have m1 := Rat.mul_nonneg (show 0 ≤ -m by grind) (show 0 ≤ 1000000000 * x + e - p by grind)
    have m2 := Rat.mul_nonneg (show 0 ≤ -m by grind) (show 0 ≤ q + e - 1000000000 * x by grind)
    have m3 := Rat.mul_nonneg (show 0 ≤ 500000000 + m by grind) he
    constructor <;> grind
theorem sq_span {y : Int × Int} {Y : Rat} (y0 : -1000000000 ≤ y.1) (y1 : y.1 ≤ y.2) (y2 : y.2 ≤ 1000000000) (lo : (y.1 : Rat) ≤ Y + 2 / 1000000000000000) (hi : Y ≤ (y.2 : Rat) + 2 / 1000000000000000) (b1 : -1000000000 ≤ Y) (b2 : Y ≤ 1000000000) :
    ((mulM y y).1 : Rat) * 1000000000 ≤ Y * Y + 1 / 100000 ∧ Y * Y ≤ ((mulM y y).2 : Rat) * 1000000000 + 1 / 100000 := by
  have d1 : (mulM y y).1 = min4 (y.1 * y.1) (y.1 * y.2) (y.2 * y.1) (y.2 * y.2) / 1000000000 := rfl
  have d2 : (mulM y y).2 = upd (max4 (y.1 * y.1) (y.1 * y.2) (y.2 * y.1) (y.2 * y.2)) 1000000000 := rfl
  have a := dn_le (a := min4 (y.1 * y.1) (y.1 * y.2) (y.2 * y.1) (y.2 * y.2)) (b := 1000000000) (by omega)
  have b := upd_ge (a := max4 (y.1 * y.1) (y.1 * y.2) (y.2 * y.1) (y.2 * y.2)) (b := 1000000000) (by omega)
  rw [← d1] at a
  rw [← d2] at b
  clear d1 d2
  have a1 : (mulM y y).1 * 1000000000 ≤ y.1 * y.1 := by unfold min4 at a; omega
  have a2 : (mulM y y).1 * 1000000000 ≤ y.1 * y.2 := by unfold min4 at a; omega
  have a3 : (mulM y y).1 * 1000000000 ≤ y.2 * y.2 := by unfold min4 at a; omega
  have c1 : y.1 * y.1 ≤ (mulM y y).2 * 1000000000 := by unfold max4 at b; omega
  have c2 : y.2 * y.2 ≤ (mulM y y).2 * 1000000000 := by unfold max4 at b; omega
  clear a b
  replace a1 := Rat.intCast_le_intCast.2 a1
  replace a2 := Rat.intCast_le_intCast.2 a2
  replace a3 := Rat.intCast_le_intCast.2 a3
  replace c1 := Rat.intCast_le_intCast.2 c1
  replace c2 := Rat.intCast_le_intCast.2 c2
  rw [Rat.intCast_mul, Rat.intCast_mul, tcast9] at a1 a2 a3 c1 c2
  have k0 : (-1000000000 : Rat) ≤ (y.1 : Rat) := Rat.intCast_le_intCast.2 y0
  have k1 : (y.1 : Rat) ≤ (y.2 : Rat) := Rat.intCast_le_intCast.2 y1
  have k2 : (y.2 : Rat) ≤ 1000000000 := Rat.intCast_le_intCast.2 y2
  clear y0 y1 y2
  generalize ((mulM y y).1 : Rat) = L at *
  generalize ((mulM y y).2 : Rat) = H at *
  generalize (y.1 : Rat) = p at *
  generalize (y.2 : Rat) = q at *
  constructor
  · rcases (Rat.le_total : 0 ≤ p ∨ p ≤ 0) with g | g
    · have m := tprod_lo g lo g lo
      clear a2 a3 c1 c2
      grind
    · rcases (Rat.le_total : 0 ≤ q ∨ q ≤ 0) with g2 | g2
      · have m := Rat.mul_nonneg (show 0 ≤ -p by grind) g2
        have n := Rat.sq_nonneg Y
        clear a1 a3 c1 c2
        grind
      · have m := tprod_lo (a := -q) (b := -q) (X := -Y + 2 / 1000000000000000) (Y := -Y + 2 / 1000000000000000) (by grind) (by grind) (by grind) (by grind)
        clear a1 a2 c1 c2
        grind
  · rcases (Rat.le_total : 0 ≤ Y ∨ Y ≤ 0) with g | g
    · have m := tprod_lo g hi g hi
      clear a1 a2 a3 c1
      grind
    · have m := tprod_lo (a := -Y) (b := -Y) (X := -p + 2 / 1000000000000000) (Y := -p + 2 / 1000000000000000) (by grind) (by grind) (by grind) (by grind)
      clear a1 a2 a3 c2
      grind
theorem turn_as_long {u r : Int} (hu1 : -500000000 ≤ u) (hu2 : u ≤ 500000000) (hr1 : -500000000 ≤ r) (hr2 : r ≤ 500000000) (a : Int) :
    (mulM (turnUp u r a) (turnUp u r a)).1 + (mulM (turnRight u r a) (turnRight u r a)).1 ≤ upd (u * u + r * r) 1000000000 ∧
    (u * u + r * r) / 1000000000 ≤ (mulM (turnUp u r a) (turnUp u r a)).2 + (mulM (turnRight u r a) (turnRight u r a)).2 := by
  rw [(turn_red u r a).1, (turn_red u r a).2]
  have h0 : 0 ≤ a % 129600000 := by omega
  have h1 : a % 129600000 < 129600000 := by omega
  generalize a % 129600000 = b at *
  have ok := turn_ok hu1 hu2 hr1 hr2 b
  have ts := sine_true (h := 2 * b) (by omega) (by omega)
  have tc := sine_true (h := 2 * b + 64800000) (by omega) (by omega)
  have l := lessQ (-(2 * b))
  have e : 64800000 - -(2 * b) = 2 * b + 64800000 := by omega
  rw [e, cs_neg] at l
  have un := unitZ (2 * b)
  have bd := bdZ (2 * b)
  have ts2 : ((sineM (2 * b)).1 : Rat) ≤ 1000000000 * sn (2 * b) + 1 / 1000000000000000 ∧ 1000000000 * sn (2 * b) ≤ ((sineM (2 * b)).2 : Rat) + 1 / 1000000000000000 := ⟨by grind, by grind⟩
  have tc2 : ((cosM b).1 : Rat) ≤ 1000000000 * cs (2 * b) + 1 / 1000000000000000 ∧ 1000000000 * cs (2 * b) ≤ ((cosM b).2 : Rat) + 1 / 1000000000000000 := by
    have e2 : cosM b = sineM (2 * b + 64800000) := rfl
    rw [e2]
    exact ⟨by grind, by grind⟩
  clear ts tc l e
  have m1 := scaled_true hu1 hu2 (by decide +kernel) tc2.1 tc2.2
  have m2 := scaled_true hr1 hr2 (by decide +kernel) ts2.1 ts2.2
  have m3 := scaled_true hr1 hr2 (by decide +kernel) tc2.1 tc2.2
  have m4 := scaled_true hu1 hu2 (by decide +kernel) ts2.1 ts2.2
  clear ts2 tc2
  have ku1 : (-500000000 : Rat) ≤ (u : Rat) := Rat.intCast_le_intCast.2 hu1
  have ku2 : (u : Rat) ≤ 500000000 := Rat.intCast_le_intCast.2 hu2
  have kr1 : (-500000000 : Rat) ≤ (r : Rat) := Rat.intCast_le_intCast.2 hr1
  have kr2 : (r : Rat) ≤ 500000000 := Rat.intCast_le_intCast.2 hr2
  have y1 : (turnUp u r b).1 = (mulM (u, u) (cosM b)).1 + (mulM (r, r) (sineM (2 * b))).1 := rfl
  have y2 : (turnUp u r b).2 = (mulM (u, u) (cosM b)).2 + (mulM (r, r) (sineM (2 * b))).2 := rfl
  have x1 : (turnRight u r b).1 = (mulM (r, r) (cosM b)).1 - (mulM (u, u) (sineM (2 * b))).2 := rfl
  have x2 : (turnRight u r b).2 = (mulM (r, r) (cosM b)).2 - (mulM (u, u) (sineM (2 * b))).1 := rfl
  have bdp : ∀ p q : Rat, -500000000 ≤ p → p ≤ 500000000 → -1 ≤ q → q ≤ 1 → -500000000 ≤ p * q ∧ p * q ≤ 500000000 := by
    intro p q h1 h2 h3 h4
    have a1 := Rat.mul_nonneg (show 0 ≤ 500000000 - p by grind) (show 0 ≤ 1 + q by grind)
    have a2 := Rat.mul_nonneg (show 0 ≤ 500000000 + p by grind) (show 0 ≤ 1 - q by grind)
    have a3 := Rat.mul_nonneg (show 0 ≤ 500000000 - p by grind) (show 0 ≤ 1 - q by grind)
    have a4 := Rat.mul_nonneg (show 0 ≤ 500000000 + p by grind) (show 0 ≤ 1 + q by grind)
    constructor <;> grind
  have q1 := bdp u (cs (2 * b)) ku1 ku2 bd.2.2.2 bd.2.2.1
  have q2 := bdp r (sn (2 * b)) kr1 kr2 bd.2.1 bd.1
  have q3 := bdp r (cs (2 * b)) kr1 kr2 bd.2.2.2 bd.2.2.1
  have q4 := bdp u (sn (2 * b)) ku1 ku2 bd.2.1 bd.1
  clear bdp
  have P := sq_span (y := turnUp u r b) (Y := u * cs (2 * b) + r * sn (2 * b)) ok.1.1 ok.1.2.1 ok.1.2.2 (by rw [y1, Rat.intCast_add]; grind) (by rw [y2, Rat.intCast_add]; grind) (by grind) (by grind)
  have Q := sq_span (y := turnRight u r b) (Y := r * cs (2 * b) - u * sn (2 * b)) ok.2.1 ok.2.2.1 ok.2.2.2 (by rw [x1, Rat.intCast_sub]; grind) (by rw [x2, Rat.intCast_sub]; grind) (by grind) (by grind)
  clear m1 m2 m3 m4 q1 q2 q3 q4 y1 y2 x1 x2 ok
  have N : (u * cs (2 * b) + r * sn (2 * b)) * (u * cs (2 * b) + r * sn (2 * b)) + (r * cs (2 * b) - u * sn (2 * b)) * (r * cs (2 * b) - u * sn (2 * b)) = (u : Rat) * u + r * r := by
    generalize cs (2 * b) = c at *
    generalize sn (2 * b) = s at *
    generalize (u : Rat) = U at *
    generalize (r : Rat) = R at *
    have : (U * c + R * s) * (U * c + R * s) + (R * c - U * s) * (R * c - U * s) = (U * U + R * R) * (c * c + s * s) := by grind
    rw [this, un]
    grind
  generalize (u * cs (2 * b) + r * sn (2 * b)) * (u * cs (2 * b) + r * sn (2 * b)) = Y at *
  generalize (r * cs (2 * b) - u * sn (2 * b)) * (r * cs (2 * b) - u * sn (2 * b)) = X at *
  have g1 := Rat.intCast_le_intCast.2 (upd_ge (a := u * u + r * r) (b := 1000000000) (by omega))
  have g2 := Rat.intCast_le_intCast.2 (dn_le (a := u * u + r * r) (b := 1000000000) (by omega))
  rw [Rat.intCast_mul, Rat.intCast_add, Rat.intCast_mul, Rat.intCast_mul, tcast9] at g1 g2
  generalize (u : Rat) * u = U at *
  generalize (r : Rat) * r = R at *
  generalize upd (u * u + r * r) 1000000000 = hi at *
  generalize (u * u + r * r) / 1000000000 = lo at *
  generalize mulM (turnUp u r b) (turnUp u r b) = p at *
  generalize mulM (turnRight u r b) (turnRight u r b) = q at *
  clear hu1 hu2 hr1 hr2 ku1 ku2 kr1 kr2 un bd
  constructor
  · rcases Int.lt_or_le hi (p.1 + q.1) with g | g
    · have c := Rat.intCast_le_intCast.2 (show hi + 1 ≤ p.1 + q.1 by omega)
      rw [Rat.intCast_add, Rat.intCast_add] at c
      have k : ((1 : Int) : Rat) = 1 := rfl
      rw [k] at c
      exfalso
      grind
    · exact g
  · rcases Int.lt_or_le (p.2 + q.2) lo with g | g
    · have c := Rat.intCast_le_intCast.2 (show p.2 + q.2 + 1 ≤ lo by omega)
      rw [Rat.intCast_add, Rat.intCast_add] at c
      have k : ((1 : Int) : Rat) = 1 := rfl
      rw [k] at c
      exfalso
      grind
    · exact g
theorem NumDown_is {a : Int} (ha : -1000000000000000000 ≤ a) (ha2 : a ≤ 1000000000000000000) : impl_NumDown.f a 1000000000 = some (a / 1000000000, true) ∧ impl_NumUp.f a 1000000000 = some (upd a 1000000000, true) := by
  unfold impl_NumDown.f impl_NumUp.f
  rw [NumRound_is (by omega) (by omega) (by omega) (by omega) (by omega) (by omega), NumRound_is (by omega) (by omega) (by omega) (by omega) (by omega) (by omega)]
  exact ⟨rfl, rfl⟩
theorem FnTurnBy_pure {l0 : List Int} (hl : Bytes l0) {k : Nat} (hk : 300 ≤ k) : laws_FnTurnBy.f (k + 1) l0 = some true := by
  unfold laws_FnTurnBy.f
  by_cases h : (l0.length : Int) > 1048576
  · rw [if_pos h]
  rw [if_neg h]
  obtain ⟨u, r, a, hd, ha1, ha2⟩ := drawTurnBy_tells hl (k := k + 1) (by omega)
  obtain ⟨i1, i2⟩ := TurnBy_is (u := u) (r := r) (a := a) (k := k + 1) (by omega)
  rw [hd]; simp only [Option.bind_some]
  rw [i1, i2]
  by_cases hin : turnOk u r a
  · rw [if_pos hin]
    simp only [Option.bind_some, bne_self_eq_false, beq_self_eq_true, Bool.not_true, Bool.or_false, Bool.false_eq_true, if_false]
    rw [laws_FnTurnBy.j0]
    simp only [Bool.false_eq_true, if_false]
    obtain ⟨u1, u2, r1, r2, -, -⟩ := hin
    obtain ⟨⟨y1, y2, y3⟩, ⟨x1, x2, x3⟩⟩ := turn_ok u1 u2 r1 r2 a
    have bY := mulM_bd (s := turnUp u r a) (t := turnUp u r a) (A := 1000000000) (B := 1000000000) (C := 1000000000) (by omega) (by omega) (by omega) (by omega) (by omega) (by omega) (by omega) (by omega) (by omega)
    have bX := mulM_bd (s := turnRight u r a) (t := turnRight u r a) (A := 1000000000) (B := 1000000000) (C := 1000000000) (by omega) (by omega) (by omega) (by omega) (by omega) (by omega) (by omega) (by omega) (by omega)
    have mY := (mul_is (s := turnUp u r a) (t := turnUp u r a) ⟨by omega, by omega, by omega⟩ ⟨by omega, by omega, by omega⟩ (by omega) (by omega) (k := k) (by omega)).1
    have mX := (mul_is (s := turnRight u r a) (t := turnRight u r a) ⟨by omega, by omega, by omega⟩ ⟨by omega, by omega, by omega⟩ (by omega) (by omega) (k := k) (by omega)).1
    rw [mY, mX]
    simp only [Option.bind_some]
    have su := sq_bd (a := u) (A := 500000000) (by omega) (by omega)
    have sr := sq_bd (a := r) (A := 500000000) (by omega) (by omega)
    rw [w64 (x := u * u) (by omega) (by omega), w64 (x := r * r) (by omega) (by omega), w64 (x := u * u + r * r) (by omega) (by omega), (NumDown_is (by omega) (by omega)).1, (NumDown_is (by omega) (by omega)).2]
    simp only [Option.bind_some]
    obtain ⟨t1, t2⟩ := turn_as_long u1 u2 r1 r2 a
    rw [w64 (by omega) (by omega), w64 (by omega) (by omega), if_pos t1]
    simp only [ge_iff_le, t2, decide_true]
  · rw [if_neg hin]
    simp [laws_FnTurnBy.j0]
theorem FnTurnBy_true (A0 : Option Addr) (c0 : Nat) (l0 : List Int) (w : World) (hr0 : Kd.C (Kd.int .u8) w A0 l0.length l0) (hc0 : l0.length ≤ c0) (hw0 : ∀ x ∈ l0, (Lit.int .u8 x).wf = true) :
    Calls Try.prog 14 #[.slice A0 l0.length c0] w fun e w' => e = .returned (.bool true) ∧ Below w.heap.size w w' :=
  laws_FnTurnBy.calls 301 A0 c0 l0 true w hr0 hc0 (FnTurnBy_pure (bytes_of hw0) (by omega))

end Go.Proofs.Ytcdgplkmahabiaa.M
