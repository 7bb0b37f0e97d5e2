import Derived.Test.YtcdgplkmahabiaaM0
import Derived.Test.YtcdgplkmahabiaaNa
import Derived.Test.YtcdgplkmahabiaaNc
namespace Go.Proofs.Ytcdgplkmahabiaa.M
open Go.RowKit Go.Proofs.YtcdgplkmahabiaaW.PrintWords Go.Proofs.YtcdgplkmahabiaaW.PrintLast Go.Proofs.YtcdgplkmahabiaaW.PrintMore
attribute [local go_sem] max2_int min2_int max_two min_two max_three min_three max_four min_four
attribute [local go_sem high] eqA23 eqA30
attribute [local go_sem] fld23_0 fld23_1 fld30_0 fld30_1 fld55_0 fld55_1 fld55_2 fld55_3 fld55_4
set_option linter.unusedVariables false
set_option linter.unusedSimpArgs false

/-! ### spec_SineBack: function 19 -/
def spec_SineBack.f (k : Nat) (a0 : Int) : Option (Int × Int × Bool) := (spec_l6In.f a0 (-1000000000) 1000000000).bind fun t211 => (if t211 = true then ((spec_l13Ask_half.f k true a0 0 0 false (-32400000) 32400000).bind fun bt212 => ((spec_l13Ask_half.f k true a0 0 0 true (-32400000) 32400000).bind fun bt215 => (some (bt212.1, bt215.2, true)))) else (some (0, 0, false)))
theorem spec_SineBack.mono : ∀ a0 k, LeO (spec_SineBack.f k a0) (spec_SineBack.f (k + 1) a0) := by
 intro a0 k
 unfold spec_SineBack.f
 repeat' first
   | (with_reducible exact spec_l13Ask_half.mono _ _ _ _ _ _ _ _)
   | (with_reducible exact LeO.refl _)
   | (with_reducible exact LeO.none _)
   | (with_reducible refine LeO.ite ?_ ?_)
   | (with_reducible refine LeO.bind ?_ (fun _ => ?_))
   | exact spec_l13Ask_half.mono _ _ _ _ _ _ _ _
   | exact LeO.none _
   | refine LeO.ite ?_ ?_
   | refine LeO.bind ?_ (fun _ => ?_)
set_option maxHeartbeats 8000000 in
set_option maxRecDepth 100000 in
theorem spec_SineBack.calls (k : Nat) (a0 : Int) (r1 : Int) (r2 : Int) (r3 : Bool) (w : World) (h : spec_SineBack.f k a0 = some (r1, r2, r3)) :
  Calls Try.prog 19 #[.int .i64 a0] w fun e w' => e = .returned (.tuple #[.agg #[.int .i64 r1, .int .i64 r2], .bool r3]) ∧ Below w.heap.size w w' := by
 have hu30 := Try.underlying30
 have hu55 := Try.underlying55
 have HB := Aside0.mk (Below.refl w.heap.size w)
 have H : ((spec_l6In.f a0 (-1000000000) 1000000000).bind fun t211 => (if t211 = true then ((spec_l13Ask_half.f k true a0 0 0 false (-32400000) 32400000).bind fun bt212 => ((spec_l13Ask_half.f k true a0 0 0 true (-32400000) 32400000).bind fun bt215 => (some (bt212.1, bt215.2, true)))) else (some (0, 0, false)))) = some (r1, r2, r3) := h
 clear h
 replace H := Option.bind_eq_some_iff.mp H
 obtain ⟨t211, A20, H⟩ := H
 replace H : (if t211 = true then ((spec_l13Ask_half.f k true a0 0 0 false (-32400000) 32400000).bind fun bt212 => ((spec_l13Ask_half.f k true a0 0 0 true (-32400000) 32400000).bind fun bt215 => (some (bt212.1, bt215.2, true)))) else (some (0, 0, false))) = some (r1, r2, r3) := H
 have A2 := Aside0.mk A20
 clear A20
 by_cases c3 : t211 = true
 ·subst c3
  have H1 : ((spec_l13Ask_half.f k true a0 0 0 false (-32400000) 32400000).bind fun bt212 => ((spec_l13Ask_half.f k true a0 0 0 true (-32400000) 32400000).bind fun bt215 => (some (bt212.1, bt215.2, true)))) = some (r1, r2, r3) := by rw [if_pos rfl] at H; exact H
  clear H
  have H := H1
  clear H1
  replace H := Option.bind_eq_some_iff.mp H
  obtain ⟨⟨t212, t213⟩, A40, H⟩ := H
  replace H : ((spec_l13Ask_half.f k true a0 0 0 true (-32400000) 32400000).bind fun bt215 => (some (t212, bt215.2, true))) = some (r1, r2, r3) := H
  have A4 := Aside0.mk A40
  clear A40
  replace H := Option.bind_eq_some_iff.mp H
  obtain ⟨⟨t215, t216⟩, A50, H⟩ := H
  replace H : (some (t212, t216, true)) = some (r1, r2, r3) := H
  have A5 := Aside0.mk A50
  clear A50
  simp only [Option.some.injEq, Prod.mk.injEq] at H
  obtain ⟨rfl, rfl, rfl⟩ := H
  go_enter Try.func19, Try.ntmps19
  go_wp2_with (first | ((with_reducible refine gate_dst (N := 2) rfl ?_); refine bE 2 #[.int .i64 0, .int .i64 0] 30 ?_; intro gb210 hg w6 hbox hb; have BK210 := Aside0.mk (hbox); have GE210 := gw hg (h0_ HB); have GW210 := GE210; replace HB := hbb (h0_ HB) hb; clear hb hbox hg) | ((with_reducible refine gate_callee (f := 48) rfl ?_); refine gL 7 Try.func48 #[.int .i64 a0, .int .i64 (-1000000000), .int .i64 1000000000] ?_; (with_reducible refine (spec_l6In.calls a0 (-1000000000) 1000000000 true _ A2.out).mono ?_); rintro e w' ⟨rfl, ⟨nd, rfl⟩⟩; refine ⟨_, rfl, ?_⟩; (try (rw [drewN_self w6]; generalize hq_ : World.drewN w6 _ = w6; have n0_ : Aside0 (w6.heap[gb210]? = some (.cells #[.int .i64 0, .int .i64 0] 30 (0, 0))) := ⟨by rw [← hq_]; exact (bk BK210)⟩; have n1_ : Aside0 (Below w.heap.size w w6) := ⟨by rw [← hq_]; exact (hs_ HB)⟩; clear BK210 HB hq_; have BK210 := n0_; have HB := n1_; clear n0_ n1_))) | ((with_reducible refine gate_callee (f := 49) rfl ?_); refine gL 12 Try.func49 #[.agg #[.bool true, .int .i64 a0, .int .i64 0, .int .i64 0, .bool false], .int .i64 (-32400000), .int .i64 32400000] ?_; (with_reducible refine (spec_l13Ask_half.calls k true a0 0 0 false (-32400000) 32400000 t212 t213 _ A4.out).mono ?_); rintro e w7 ⟨rfl, hb⟩; refine ⟨_, rfl, ?_⟩; replace BK210 := bb (bk BK210) hb; replace HB := hbb (hs_ HB) hb; clear hb) | ((with_reducible refine gate_dst (N := 4) rfl ?_); refine bE 4 #[.int .i64 0, .int .i64 0] 30 ?_; intro gb214 hg w8 hbox hb; have BK214 := Aside0.mk (hbox); have GE214 := gw hg (hs_ HB); have GW214 := GE214; have NB210_214 := nl hg (bk BK210); have NB214_210 := ng hg (bk BK210); replace BK210 := bb (bk BK210) hb; replace HB := hbb (hs_ HB) hb; clear hb hbox hg; have hnb9 := NB214_210.out; have hnc9 := NB210_214.out; obtain ⟨hcz10_0, hcz10_1, hfz10_0, hfz10_1⟩ := cz2 BK214) | ((with_reducible refine gate_callee (f := 49) rfl ?_); refine gL 15 Try.func49 #[.agg #[.bool true, .int .i64 a0, .int .i64 0, .int .i64 0, .bool true], .int .i64 (-32400000), .int .i64 32400000] ?_; (with_reducible refine (spec_l13Ask_half.calls k true a0 0 0 true (-32400000) 32400000 t215 t216 _ A5.out).mono ?_); rintro e w11 ⟨rfl, hb⟩; refine ⟨_, rfl, ?_⟩; replace BK210 := bb (bk1 BK210 NB210_214) hb; replace BK214 := bb (o := .cells #[.int .i64 t212, .int .i64 t213] 30 (0, 0)) (bkp BK214) hb; replace HB := hbb (hs_ HB) hb; clear hb) | ((with_reducible refine gate_dst (N := 5) rfl ?_); refine bE 5 #[.int .i64 0, .int .i64 0] 30 ?_; intro gb217 hg w12 hbox hb; have BK217 := Aside0.mk (hbox); have GE217 := gw hg (hs_ HB); have GW217 := GE217; have NB210_217 := nl hg (bk BK210); have NB217_210 := ng hg (bk BK210); have NB214_217 := nl hg (bk BK214); have NB217_214 := ng hg (bk BK214); replace BK210 := bb (bk BK210) hb; replace BK214 := bb (bk BK214) hb; replace HB := hbb (hs_ HB) hb; clear hb hbox hg; have hnb13 := NB217_210.out; have hnc13 := NB210_217.out; have hnb14 := NB217_214.out; have hnc14 := NB214_217.out; obtain ⟨hcz15_0, hcz15_1, hfz15_0, hfz15_1⟩ := cz2 BK217; obtain ⟨hcz16_0, hcz16_1, hfz16_0, hfz16_1⟩ := cz2 BK214; obtain ⟨hcz17_0, hcz17_1, hfz17_0, hfz17_1⟩ := cz2 BK210))
  refine bodyPost_ret (results_ct rfl _ _ gb210 30 #[.int .i64 t212, .int .i64 t216] (0, 0) _ rfl (bkp BK210) Try.underlying30 rfl (by kernel_rfl)) rfl ?_
  exact ⟨by first | rfl | (simp [errW_none, errW_some] <;> rfl) | (simp [*, errW_none, errW_some] <;> rfl), hs_ HB⟩
 ·replace c3 := Bool.eq_false_iff.mpr c3
  subst c3
  have H1 : (some (0, 0, false)) = some (r1, r2, r3) := by rw [if_neg (show ¬ (false = true) by decide)] at H; exact H
  clear H
  have H := H1
  clear H1
  simp only [Option.some.injEq, Prod.mk.injEq] at H
  obtain ⟨rfl, rfl, rfl⟩ := H
  go_enter Try.func19, Try.ntmps19
  go_wp2_with (first | ((with_reducible refine gate_dst (N := 2) rfl ?_); refine bE 2 #[.int .i64 0, .int .i64 0] 30 ?_; intro gb210 hg w18 hbox hb; have BK210 := Aside0.mk (hbox); have GE210 := gw hg (h0_ HB); have GW210 := GE210; replace HB := hbb (h0_ HB) hb; clear hb hbox hg) | ((with_reducible refine gate_callee (f := 48) rfl ?_); refine gL 7 Try.func48 #[.int .i64 a0, .int .i64 (-1000000000), .int .i64 1000000000] ?_; (with_reducible refine (spec_l6In.calls a0 (-1000000000) 1000000000 false _ A2.out).mono ?_); rintro e w' ⟨rfl, ⟨nd, rfl⟩⟩; refine ⟨_, rfl, ?_⟩; (try (rw [drewN_self w18]; generalize hq_ : World.drewN w18 _ = w18; have n0_ : Aside0 (w18.heap[gb210]? = some (.cells #[.int .i64 0, .int .i64 0] 30 (0, 0))) := ⟨by rw [← hq_]; exact (bk BK210)⟩; have n1_ : Aside0 (Below w.heap.size w w18) := ⟨by rw [← hq_]; exact (hs_ HB)⟩; clear BK210 HB hq_; have BK210 := n0_; have HB := n1_; clear n0_ n1_)); obtain ⟨hcz19_0, hcz19_1, hfz19_0, hfz19_1⟩ := cz2 BK210))
  refine bodyPost_ret (results_ct rfl _ _ gb210 30 #[.int .i64 0, .int .i64 0] (0, 0) _ rfl (bkp BK210) Try.underlying30 rfl (by kernel_rfl)) rfl ?_
  exact ⟨by first | rfl | (simp [errW_none, errW_some] <;> rfl) | (simp [*, errW_none, errW_some] <;> rfl), hs_ HB⟩


/-! ### spec_CosBack: function 23 -/
def spec_CosBack.f (k : Nat) (a0 : Int) : Option (Int × Int × Bool) := (spec_SineBack.f k a0).bind fun bt219 => (if bt219.2.2 = true then (some (wrap64 (32400000 - bt219.2.1), wrap64 (32400000 - bt219.1), true)) else (some (0, 0, false)))
theorem spec_CosBack.mono : ∀ a0 k, LeO (spec_CosBack.f k a0) (spec_CosBack.f (k + 1) a0) := by
 intro a0 k
 unfold spec_CosBack.f
 repeat' first
   | (with_reducible exact spec_SineBack.mono _ _)
   | (with_reducible exact LeO.refl _)
   | (with_reducible exact LeO.none _)
   | (with_reducible refine LeO.ite ?_ ?_)
   | (with_reducible refine LeO.bind ?_ (fun _ => ?_))
   | exact spec_SineBack.mono _ _
   | exact LeO.none _
   | refine LeO.ite ?_ ?_
   | refine LeO.bind ?_ (fun _ => ?_)
set_option maxHeartbeats 8000000 in
set_option maxRecDepth 100000 in
theorem spec_CosBack.calls (k : Nat) (a0 : Int) (r1 : Int) (r2 : Int) (r3 : Bool) (w : World) (h : spec_CosBack.f k a0 = some (r1, r2, r3)) :
  Calls Try.prog 23 #[.int .i64 a0] w fun e w' => e = .returned (.tuple #[.agg #[.int .i64 r1, .int .i64 r2], .bool r3]) ∧ Below w.heap.size w w' := by
 have hu30 := Try.underlying30
 have HB := Aside0.mk (Below.refl w.heap.size w)
 have H : ((spec_SineBack.f k a0).bind fun bt219 => (if bt219.2.2 = true then (some (wrap64 (32400000 - bt219.2.1), wrap64 (32400000 - bt219.1), true)) else (some (0, 0, false)))) = some (r1, r2, r3) := h
 clear h
 replace H := Option.bind_eq_some_iff.mp H
 obtain ⟨⟨t219, t220, t221⟩, A20, H⟩ := H
 replace H : (if t221 = true then (some (wrap64 (32400000 - t220), wrap64 (32400000 - t219), true)) else (some (0, 0, false))) = some (r1, r2, r3) := H
 have A2 := Aside0.mk A20
 clear A20
 by_cases c3 : t221 = true
 ·subst c3
  have H1 : (some (wrap64 (32400000 - t220), wrap64 (32400000 - t219), true)) = some (r1, r2, r3) := by rw [if_pos rfl] at H; exact H
  clear H
  have H := H1
  clear H1
  simp only [Option.some.injEq, Prod.mk.injEq] at H
  obtain ⟨rfl, rfl, rfl⟩ := H
  go_enter Try.func23, Try.ntmps23
  go_wp2_with (first | ((with_reducible refine gate_dst (N := 2) rfl ?_); refine bE 2 #[.int .i64 0, .int .i64 0] 30 ?_; intro gb218 hg w4 hbox hb; have BK218 := Aside0.mk (hbox); have GE218 := gw hg (h0_ HB); have GW218 := GE218; replace HB := hbb (h0_ HB) hb; clear hb hbox hg) | ((with_reducible refine gate_callee (f := 19) rfl ?_); refine gL 8 Try.func19 #[.int .i64 a0] ?_; (with_reducible refine (spec_SineBack.calls k a0 t219 t220 true _ A2.out).mono ?_); rintro e w5 ⟨rfl, hb⟩; refine ⟨_, rfl, ?_⟩; replace BK218 := bb (bk BK218) hb; replace HB := hbb (hs_ HB) hb; clear hb) | ((with_reducible refine gate_dst (N := 4) rfl ?_); refine bE 4 #[.int .i64 0, .int .i64 0] 30 ?_; intro gb222 hg w6 hbox hb; have BK222 := Aside0.mk (hbox); have GE222 := gw hg (hs_ HB); have GW222 := GE222; have NB218_222 := nl hg (bk BK218); have NB222_218 := ng hg (bk BK218); replace BK218 := bb (bk BK218) hb; replace HB := hbb (hs_ HB) hb; clear hb hbox hg; have hnb7 := NB222_218.out; have hnc7 := NB218_222.out; obtain ⟨hcz8_0, hcz8_1, hfz8_0, hfz8_1⟩ := cz2 BK222; obtain ⟨hcz9_0, hcz9_1, hfz9_0, hfz9_1⟩ := cz2 BK218))
  refine bodyPost_ret (results_ct rfl _ _ gb218 30 #[.int .i64 (wrap64 (32400000 - t220)), .int .i64 (wrap64 (32400000 - t219))] (0, 0) _ rfl (bkp BK218) Try.underlying30 rfl (by kernel_rfl)) rfl ?_
  exact ⟨by first | rfl | (simp [errW_none, errW_some] <;> rfl) | (simp [*, errW_none, errW_some] <;> rfl), hs_ HB⟩
 ·replace c3 := Bool.eq_false_iff.mpr c3
  subst c3
  have H1 : (some (0, 0, false)) = some (r1, r2, r3) := by rw [if_neg (show ¬ (false = true) by decide)] at H; exact H
  clear H
  have H := H1
  clear H1
  simp only [Option.some.injEq, Prod.mk.injEq] at H
  obtain ⟨rfl, rfl, rfl⟩ := H
  go_enter Try.func23, Try.ntmps23
  go_wp2_with (first | ((with_reducible refine gate_dst (N := 2) rfl ?_); refine bE 2 #[.int .i64 0, .int .i64 0] 30 ?_; intro gb218 hg w10 hbox hb; have BK218 := Aside0.mk (hbox); have GE218 := gw hg (h0_ HB); have GW218 := GE218; replace HB := hbb (h0_ HB) hb; clear hb hbox hg) | ((with_reducible refine gate_callee (f := 19) rfl ?_); refine gL 8 Try.func19 #[.int .i64 a0] ?_; (with_reducible refine (spec_SineBack.calls k a0 t219 t220 false _ A2.out).mono ?_); rintro e w11 ⟨rfl, hb⟩; refine ⟨_, rfl, ?_⟩; replace BK218 := bb (bk BK218) hb; replace HB := hbb (hs_ HB) hb; clear hb) | ((with_reducible refine gate_dst (N := 4) rfl ?_); refine bE 4 #[.int .i64 0, .int .i64 0] 30 ?_; intro gb222 hg w12 hbox hb; have BK222 := Aside0.mk (hbox); have GE222 := gw hg (hs_ HB); have GW222 := GE222; have NB218_222 := nl hg (bk BK218); have NB222_218 := ng hg (bk BK218); replace BK218 := bb (bk BK218) hb; replace HB := hbb (hs_ HB) hb; clear hb hbox hg; have hnb13 := NB222_218.out; have hnc13 := NB218_222.out; obtain ⟨hcz14_0, hcz14_1, hfz14_0, hfz14_1⟩ := cz2 BK222; obtain ⟨hcz15_0, hcz15_1, hfz15_0, hfz15_1⟩ := cz2 BK218))
  refine bodyPost_ret (results_ct rfl _ _ gb218 30 #[.int .i64 0, .int .i64 0] (0, 0) _ rfl (bkp BK218) Try.underlying30 rfl (by kernel_rfl)) rfl ?_
  exact ⟨by first | rfl | (simp [errW_none, errW_some] <;> rfl) | (simp [*, errW_none, errW_some] <;> rfl), hs_ HB⟩


end Go.Proofs.Ytcdgplkmahabiaa.M
