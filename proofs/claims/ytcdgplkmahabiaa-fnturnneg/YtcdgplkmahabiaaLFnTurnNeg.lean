import Derived.Test.YtcdgplkmahabiaaP6
import Derived.Test.YtcdgplkmahabiaaDc
namespace Go.Proofs.Ytcdgplkmahabiaa.M
open Go.RowKit Go.Proofs.YtcdgplkmahabiaaW.PrintWords Go.Proofs.YtcdgplkmahabiaaW.PrintLast Go.Proofs.YtcdgplkmahabiaaW.PrintMore
attribute [local go_sem] max2_int min2_int max_two min_two max_three min_three max_four min_four
attribute [local go_sem high] eqA23 eqA30
attribute [local go_sem] fld23_0 fld23_1 fld30_0 fld30_1 fld55_0 fld55_1 fld55_2 fld55_3 fld55_4
set_option linter.unusedVariables false
set_option linter.unusedSimpArgs false
/-! ### laws_FnTurnNeg: function 7 -/
def laws_FnTurnNeg.j0 : Nat → Int → Int → Int → Bool → Bool → Bool → Int → Int → Int → Int → Int → Int → Int → Int → Option (Bool)
 | 0, _, _, _, _, _, _, _, _, _, _, _, _, _, _ => none
 | k + 1, x3, x4, x5, x8, x11, x59, x375000, x375001, x376000, x376001, x382000, x382001, x383000, x383001 => if x59 = true then (if (x11 == x8) = true then (if (x382000 == x375000 && (x382001 == x375001)) = true then (some (x383000 == x376000 && (x383001 == x376001))) else (some false)) else (some false)) else ((impl_TurnBy.f k (wrap64 (-x3)) (wrap64 (-x4)) x5).bind fun bt383 => ((impl_TurnBy.f k x3 x4 (wrap64 (x5 + 129600000))).bind fun bt390 => (if bt383.2.2.2.2 = true then ((impl_SpanNeg.f x382000 x382001).bind fun bt397 => (if (bt383.1 == bt397.1 && (bt383.2.1 == bt397.2)) = true then ((impl_SpanNeg.f x383000 x383001).bind fun bt399 => (if (bt383.2.2.1 == bt399.1 && (bt383.2.2.2.1 == bt399.2)) = true then (if bt390.2.2.2.2 = true then (if (bt390.1 == x382000 && (bt390.2.1 == x382001)) = true then (some (bt390.2.2.1 == x383000 && (bt390.2.2.2.1 == x383001))) else (some false)) else (some true)) else (some false))) else (some false))) else (some false))))
def laws_FnTurnNeg.f (k : Nat) (l0 : List Int) : Option (Bool) := if (l0.length : Int) > 1048576 then (some true) else ((spec_DrawTurnBy.f k l0).bind fun bt366 => ((spec_TurnBy.f k bt366.1 bt366.2.1 bt366.2.2).bind fun bt369 => ((impl_TurnBy.f k bt366.1 bt366.2.1 bt366.2.2).bind fun bt376 => (if (bt376.2.2.2.2 != bt369.2.2.2.2) = true then (laws_FnTurnNeg.j0 k bt366.1 bt366.2.1 bt366.2.2 bt369.2.2.2.2 bt376.2.2.2.2 true bt369.1 bt369.2.1 bt369.2.2.1 bt369.2.2.2.1 bt376.1 bt376.2.1 bt376.2.2.1 bt376.2.2.2.1) else (if (!(bt376.1 == bt369.1) || (!(bt376.2.1 == bt369.2.1))) = true then (laws_FnTurnNeg.j0 k bt366.1 bt366.2.1 bt366.2.2 bt369.2.2.2.2 bt376.2.2.2.2 true bt369.1 bt369.2.1 bt369.2.2.1 bt369.2.2.2.1 bt376.1 bt376.2.1 bt376.2.2.1 bt376.2.2.2.1) else (if (!(bt376.2.2.1 == bt369.2.2.1) || (!(bt376.2.2.2.1 == bt369.2.2.2.1))) = true then (laws_FnTurnNeg.j0 k bt366.1 bt366.2.1 bt366.2.2 bt369.2.2.2.2 bt376.2.2.2.2 true bt369.1 bt369.2.1 bt369.2.2.1 bt369.2.2.2.1 bt376.1 bt376.2.1 bt376.2.2.1 bt376.2.2.2.1) else (laws_FnTurnNeg.j0 k bt366.1 bt366.2.1 bt366.2.2 bt369.2.2.2.2 bt376.2.2.2.2 (!bt376.2.2.2.2) bt369.1 bt369.2.1 bt369.2.2.1 bt369.2.2.2.1 bt376.1 bt376.2.1 bt376.2.2.1 bt376.2.2.2.1)))))))
theorem laws_FnTurnNeg.mono_l : ∀ k, (∀ y0 y1 y2 y3 y4 y5 y6 y7 y8 y9 y10 y11 y12 y13, LeO (laws_FnTurnNeg.j0 k y0 y1 y2 y3 y4 y5 y6 y7 y8 y9 y10 y11 y12 y13) (laws_FnTurnNeg.j0 (k + 1) y0 y1 y2 y3 y4 y5 y6 y7 y8 y9 y10 y11 y12 y13))
 | 0 => fun _ _ _ _ _ _ _ _ _ _ _ _ _ _ r h => by simp [laws_FnTurnNeg.j0] at h
 | k + 1 => by
  have ih0 := laws_FnTurnNeg.mono_l k
  ·intro y0 y1 y2 y3 y4 y5 y6 y7 y8 y9 y10 y11 y12 y13
   unfold laws_FnTurnNeg.j0
   repeat' first
   | (with_reducible exact ih0 _ _ _ _ _ _ _ _ _ _ _ _ _ _)
   | (with_reducible exact impl_TurnBy.mono _ _ _ _)
   | (with_reducible exact spec_DrawTurnBy.mono _ _)
   | (with_reducible exact spec_TurnBy.mono _ _ _ _)
   | (with_reducible exact LeO.refl _)
   | (with_reducible exact LeO.none _)
   | (with_reducible refine LeO.ite ?_ ?_)
   | (with_reducible refine LeO.bind ?_ (fun _ => ?_))
   | exact ih0 _ _ _ _ _ _ _ _ _ _ _ _ _ _
   | exact impl_TurnBy.mono _ _ _ _
   | exact spec_DrawTurnBy.mono _ _
   | exact spec_TurnBy.mono _ _ _ _
   | exact LeO.none _
   | refine LeO.ite ?_ ?_
   | refine LeO.bind ?_ (fun _ => ?_)
theorem laws_FnTurnNeg.mono : ∀ a0 k, LeO (laws_FnTurnNeg.f k a0) (laws_FnTurnNeg.f (k + 1) a0) := by
 intro a0 k
 have ih0 := laws_FnTurnNeg.mono_l k
 unfold laws_FnTurnNeg.f
 repeat' first
   | (with_reducible exact ih0 _ _ _ _ _ _ _ _ _ _ _ _ _ _)
   | (with_reducible exact impl_TurnBy.mono _ _ _ _)
   | (with_reducible exact spec_DrawTurnBy.mono _ _)
   | (with_reducible exact spec_TurnBy.mono _ _ _ _)
   | (with_reducible exact LeO.refl _)
   | (with_reducible exact LeO.none _)
   | (with_reducible refine LeO.ite ?_ ?_)
   | (with_reducible refine LeO.bind ?_ (fun _ => ?_))
   | exact ih0 _ _ _ _ _ _ _ _ _ _ _ _ _ _
   | exact impl_TurnBy.mono _ _ _ _
   | exact spec_DrawTurnBy.mono _ _
   | exact spec_TurnBy.mono _ _ _ _
   | exact LeO.none _
   | refine LeO.ite ?_ ?_
   | refine LeO.bind ?_ (fun _ => ?_)
def laws_FnTurnNeg.T10 : Bool × List (List Nat × List Nat) := (true, [([], []), ([0], [0]), ([1], [1]), ([1], [1]), ([3, 1, 1], [1, 3]), ([2, 4, 1], [1, 2, 4]), ([1, 5], [1, 5]), ([6, 4], [6]), ([7], [7]), ([7], [7]), ([9, 7, 7], [7, 9]), ([8, 10, 7], [7, 8, 10]), ([7, 11], [7, 11]), ([12, 10], [12]), ([13], [13]), ([14, 13], [13, 14]), ([15, 13, 13], [13, 15]), ([16], [16]), ([16], [16]), ([17, 18, 16], [16, 17, 18]), ([19, 16, 16], [16, 19]), ([20], [20]), ([20], [20]), ([21, 22, 20], [20, 21, 22]), ([20, 23, 16], [16, 20, 23]), ([16, 24, 13], [13, 16, 24]), ([13, 25], [13, 25]), ([26, 20, 0, 1, 2, 3, 4, 5, 6, 7, 8, 9, 10, 11, 12, 13, 14, 15, 16, 17, 18, 19, 20, 21, 22, 23, 24, 25, 26], [26])])
def laws_FnTurnNeg.B10 : List Nat := [0, 1, 3, 3, 11, 31, 63, 127, 255, 255, 767, 2047, 4095, 8191, 16383, 32767, 65535, 131071, 131071, 524287, 1048575, 2097151, 2097151, 8388607, 16777215, 33554431, 67108863, 134217727]
theorem laws_FnTurnNeg.tab10 : rtab .any (opsOf Try.f7 10) = laws_FnTurnNeg.T10 := by kernel_rfl
theorem laws_FnTurnNeg.bits10 : waitsOk laws_FnTurnNeg.T10.2 laws_FnTurnNeg.B10 = true := by kernel_rfl
set_option maxHeartbeats 8000000 in
set_option maxRecDepth 100000 in
theorem laws_FnTurnNeg.calls (k : Nat) (A0 : Option Addr) (c0 : Nat) (l0 : List Int) (r : Bool) (w : World) (hr0 : Kd.C (Kd.int .u8) w A0 l0.length l0) (hc0 : l0.length ≤ c0) (h : laws_FnTurnNeg.f k l0 = some r) :
  Calls Try.prog 7 #[.slice A0 l0.length c0] w fun e w' => e = .returned (.bool r) ∧ Below w.heap.size w w' := by
 have hu23 := Try.underlying23
 have HR0 := Aside0.mk hr0
 have HC0 := Aside0.mk hc0
 clear hr0 hc0
 have HB := Aside0.mk (Below.refl w.heap.size w)
 have H : (if (l0.length : Int) > 1048576 then (some true) else ((spec_DrawTurnBy.f k l0).bind fun bt366 => ((spec_TurnBy.f k bt366.1 bt366.2.1 bt366.2.2).bind fun bt369 => ((impl_TurnBy.f k bt366.1 bt366.2.1 bt366.2.2).bind fun bt376 => (if (bt376.2.2.2.2 != bt369.2.2.2.2) = true then (laws_FnTurnNeg.j0 k bt366.1 bt366.2.1 bt366.2.2 bt369.2.2.2.2 bt376.2.2.2.2 true bt369.1 bt369.2.1 bt369.2.2.1 bt369.2.2.2.1 bt376.1 bt376.2.1 bt376.2.2.1 bt376.2.2.2.1) else (if (!(bt376.1 == bt369.1) || (!(bt376.2.1 == bt369.2.1))) = true then (laws_FnTurnNeg.j0 k bt366.1 bt366.2.1 bt366.2.2 bt369.2.2.2.2 bt376.2.2.2.2 true bt369.1 bt369.2.1 bt369.2.2.1 bt369.2.2.2.1 bt376.1 bt376.2.1 bt376.2.2.1 bt376.2.2.2.1) else (if (!(bt376.2.2.1 == bt369.2.2.1) || (!(bt376.2.2.2.1 == bt369.2.2.2.1))) = true then (laws_FnTurnNeg.j0 k bt366.1 bt366.2.1 bt366.2.2 bt369.2.2.2.2 bt376.2.2.2.2 true bt369.1 bt369.2.1 bt369.2.2.1 bt369.2.2.2.1 bt376.1 bt376.2.1 bt376.2.2.1 bt376.2.2.2.1) else (laws_FnTurnNeg.j0 k bt366.1 bt366.2.1 bt366.2.2 bt369.2.2.2.2 bt376.2.2.2.2 (!bt376.2.2.2.2) bt369.1 bt369.2.1 bt369.2.2.1 bt369.2.2.2.1 bt376.1 bt376.2.1 bt376.2.2.1 bt376.2.2.2.1)))))))) = some r := h
 clear h
 by_cases c2 : (l0.length : Int) > 1048576
 ·rw [if_pos c2] at H
  have c2b0 : decide (1048576 < (l0.length : Int)) = true := decide_eq_true c2
  have c2b1 : decide (1048576 < l0.length) = true := decide_eq_true (by omega)
  clear c2
  obtain rfl := Option.some.inj H
  go_enter Try.func7, Try.ntmps7
  go_wp2
  go_ret
  exact ⟨by first | rfl | (simp [errW_none, errW_some] <;> rfl) | (simp [*, errW_none, errW_some] <;> rfl), h0_ HB⟩
 ·rw [if_neg c2] at H
  have c2b0 : decide (1048576 < (l0.length : Int)) = false := decide_eq_false c2
  have c2b1 : decide (1048576 < l0.length) = false := decide_eq_false (by omega)
  clear c2
  replace H := Option.bind_eq_some_iff.mp H
  obtain ⟨⟨t366, t367, t368⟩, A30, H⟩ := H
  replace H : ((spec_TurnBy.f k t366 t367 t368).bind fun bt369 => ((impl_TurnBy.f k t366 t367 t368).bind fun bt376 => (if (bt376.2.2.2.2 != bt369.2.2.2.2) = true then (laws_FnTurnNeg.j0 k t366 t367 t368 bt369.2.2.2.2 bt376.2.2.2.2 true bt369.1 bt369.2.1 bt369.2.2.1 bt369.2.2.2.1 bt376.1 bt376.2.1 bt376.2.2.1 bt376.2.2.2.1) else (if (!(bt376.1 == bt369.1) || (!(bt376.2.1 == bt369.2.1))) = true then (laws_FnTurnNeg.j0 k t366 t367 t368 bt369.2.2.2.2 bt376.2.2.2.2 true bt369.1 bt369.2.1 bt369.2.2.1 bt369.2.2.2.1 bt376.1 bt376.2.1 bt376.2.2.1 bt376.2.2.2.1) else (if (!(bt376.2.2.1 == bt369.2.2.1) || (!(bt376.2.2.2.1 == bt369.2.2.2.1))) = true then (laws_FnTurnNeg.j0 k t366 t367 t368 bt369.2.2.2.2 bt376.2.2.2.2 true bt369.1 bt369.2.1 bt369.2.2.1 bt369.2.2.2.1 bt376.1 bt376.2.1 bt376.2.2.1 bt376.2.2.2.1) else (laws_FnTurnNeg.j0 k t366 t367 t368 bt369.2.2.2.2 bt376.2.2.2.2 (!bt376.2.2.2.2) bt369.1 bt369.2.1 bt369.2.2.1 bt369.2.2.2.1 bt376.1 bt376.2.1 bt376.2.2.1 bt376.2.2.2.1)))))) = some r := H
  have A3 := Aside0.mk A30
  clear A30
  replace H := Option.bind_eq_some_iff.mp H
  obtain ⟨⟨t369, t370, t371, t372, t373⟩, A40, H⟩ := H
  replace H : ((impl_TurnBy.f k t366 t367 t368).bind fun bt376 => (if (bt376.2.2.2.2 != t373) = true then (laws_FnTurnNeg.j0 k t366 t367 t368 t373 bt376.2.2.2.2 true t369 t370 t371 t372 bt376.1 bt376.2.1 bt376.2.2.1 bt376.2.2.2.1) else (if (!(bt376.1 == t369) || (!(bt376.2.1 == t370))) = true then (laws_FnTurnNeg.j0 k t366 t367 t368 t373 bt376.2.2.2.2 true t369 t370 t371 t372 bt376.1 bt376.2.1 bt376.2.2.1 bt376.2.2.2.1) else (if (!(bt376.2.2.1 == t371) || (!(bt376.2.2.2.1 == t372))) = true then (laws_FnTurnNeg.j0 k t366 t367 t368 t373 bt376.2.2.2.2 true t369 t370 t371 t372 bt376.1 bt376.2.1 bt376.2.2.1 bt376.2.2.2.1) else (laws_FnTurnNeg.j0 k t366 t367 t368 t373 bt376.2.2.2.2 (!bt376.2.2.2.2) t369 t370 t371 t372 bt376.1 bt376.2.1 bt376.2.2.1 bt376.2.2.2.1))))) = some r := H
  have A4 := Aside0.mk A40
  clear A40
  replace H := Option.bind_eq_some_iff.mp H
  obtain ⟨⟨t376, t377, t378, t379, t380⟩, A50, H⟩ := H
  replace H : (if (t380 != t373) = true then (laws_FnTurnNeg.j0 k t366 t367 t368 t373 t380 true t369 t370 t371 t372 t376 t377 t378 t379) else (if (!(t376 == t369) || (!(t377 == t370))) = true then (laws_FnTurnNeg.j0 k t366 t367 t368 t373 t380 true t369 t370 t371 t372 t376 t377 t378 t379) else (if (!(t378 == t371) || (!(t379 == t372))) = true then (laws_FnTurnNeg.j0 k t366 t367 t368 t373 t380 true t369 t370 t371 t372 t376 t377 t378 t379) else (laws_FnTurnNeg.j0 k t366 t367 t368 t373 t380 (!t380) t369 t370 t371 t372 t376 t377 t378 t379)))) = some r := H
  have A5 := Aside0.mk A50
  clear A50
  have HC6 := Aside0.mk H
  clear H
  go_enter Try.func7, Try.ntmps7
  go_upto_region 6 with (first | ((with_reducible refine gate_callee (f := 26) rfl ?_); refine gL 23 Try.func26 #[.slice A0 l0.length c0] ?_; (with_reducible refine (spec_DrawTurnBy.calls k _ _ l0 t366 t367 t368 _ ?side1 ?side2 A3.out).mono ?_); (case side1 => repeat (first | exact HR0.out | (with_reducible refine Kd.C_alloc ?_ _) | (with_reducible refine Kd.C_drewN ?_ _) | (with_reducible refine Kd.C_drew ?_))); (case side2 => exact HC0.out); rintro e w7 ⟨rfl, hb⟩; refine ⟨_, rfl, ?_⟩; replace HB := hbb (h0_ HB) hb; clear hb) | ((with_reducible refine gate_callee (f := 15) rfl ?_); refine gL 31 Try.func15 #[.int .i64 t366, .int .i64 t367, .int .i64 t368] ?_; (with_reducible refine (spec_TurnBy.calls k t366 t367 t368 t369 t370 t371 t372 t373 _ A4.out).mono ?_); rintro e w8 ⟨rfl, hb⟩; refine ⟨_, rfl, ?_⟩; replace HB := hbb (h0_ HB) hb; clear hb) | ((with_reducible refine gate_dst (N := 6) rfl ?_); refine bE 6 #[.int .i64 0, .int .i64 0] 23 ?_; intro gb374 hg w9 hbox hb; have BK374 := Aside0.mk (hbox); have GE374 := gw hg (h0_ HB); have GW374 := GE374; replace HB := hbb (h0_ HB) hb; clear hb hbox hg) | ((with_reducible refine gate_dst (N := 7) rfl ?_); refine bE 7 #[.int .i64 0, .int .i64 0] 23 ?_; intro gb375 hg w10 hbox hb; have BK375 := Aside0.mk (hbox); have GE375 := gw hg (hs_ HB); have GW375 := GE375; have NB374_375 := nl hg (bk BK374); have NB375_374 := ng hg (bk BK374); replace BK374 := bb (bk BK374) hb; replace HB := hbb (hs_ HB) hb; clear hb hbox hg; have hnb11 := NB374_375.out; have hnc11 := NB375_374.out; obtain ⟨hcz12_0, hcz12_1, hfz12_0, hfz12_1⟩ := cz2 BK374; obtain ⟨hcz13_0, hcz13_1, hfz13_0, hfz13_1⟩ := cz2 BK375) | ((with_reducible refine gate_callee (f := 16) rfl ?_); refine gL 39 Try.func16 #[.int .i64 t366, .int .i64 t367, .int .i64 t368] ?_; (with_reducible refine (impl_TurnBy.calls k t366 t367 t368 t376 t377 t378 t379 t380 _ A5.out).mono ?_); rintro e w14 ⟨rfl, hb⟩; refine ⟨_, rfl, ?_⟩; replace BK374 := bb (o := .cells #[.int .i64 t369, .int .i64 t370] 23 (0, 0)) (bkp BK374) hb; replace BK375 := bb (o := .cells #[.int .i64 t371, .int .i64 t372] 23 (0, 0)) (bkp BK375) hb; replace HB := hbb (hs_ HB) hb; clear hb) | ((with_reducible refine gate_dst (N := 9) rfl ?_); refine bE 9 #[.int .i64 0, .int .i64 0] 23 ?_; intro gb381 hg w15 hbox hb; have BK381 := Aside0.mk (hbox); have GE381 := gw hg (hs_ HB); have GW381 := GE381; have NB374_381 := nl hg (bk BK374); have NB381_374 := ng hg (bk BK374); have NB375_381 := nl hg (bk BK375); have NB381_375 := ng hg (bk BK375); replace BK374 := bb (bk BK374) hb; replace BK375 := bb (bk BK375) hb; replace HB := hbb (hs_ HB) hb; clear hb hbox hg) | ((with_reducible refine gate_dst (N := 10) rfl ?_); refine bE 10 #[.int .i64 0, .int .i64 0] 23 ?_; intro gb382 hg w16 hbox hb; have BK382 := Aside0.mk (hbox); have GE382 := gw hg (hs_ HB); have GW382 := GE382; have NB374_382 := nl hg (bk BK374); have NB382_374 := ng hg (bk BK374); have NB375_382 := nl hg (bk BK375); have NB382_375 := ng hg (bk BK375); have NB381_382 := nl hg (bk BK381); have NB382_381 := ng hg (bk BK381); replace BK374 := bb (bk BK374) hb; replace BK375 := bb (bk BK375) hb; replace BK381 := bb (bk BK381) hb; replace HB := hbb (hs_ HB) hb; clear hb hbox hg; have hnb17 := NB381_374.out; have hnc17 := NB374_381.out; have hnb18 := NB381_375.out; have hnc18 := NB375_381.out; have hnb19 := NB381_382.out; have hnc19 := NB382_381.out; obtain ⟨hcz20_0, hcz20_1, hfz20_0, hfz20_1⟩ := cz2 BK381; have hnb21 := NB382_374.out; have hnc21 := NB374_382.out; have hnb22 := NB382_375.out; have hnc22 := NB375_382.out; obtain ⟨hcz23_0, hcz23_1, hfz23_0, hfz23_1⟩ := cz2 BK382))
  (try simp only [Act.put, List.setIfInBounds_toArray, List.set_cons_zero, List.set_cons_succ])
  go_cut [59] (fun v59 wc => ∃ (kq : Nat) (x59_5 : Bool), v59 = .bool x59_5 ∧ Aside0 (laws_FnTurnNeg.j0 kq t366 t367 t368 t373 t380 x59_5 t369 t370 t371 t372 t376 t377 t378 t379 = some r) ∧ Aside0 (kq ≤ k) ∧ Aside0 (wc.heap[gb374]? = some (.cells #[.int .i64 t369, .int .i64 t370] 23 (0, 0))) ∧ Aside0 (wc.heap[gb375]? = some (.cells #[.int .i64 t371, .int .i64 t372] 23 (0, 0))) ∧ Aside0 (wc.heap[gb381]? = some (.cells #[.int .i64 t376, .int .i64 t377] 23 (0, 0))) ∧ Aside0 (wc.heap[gb382]? = some (.cells #[.int .i64 t378, .int .i64 t379] 23 (0, 0))) ∧ Aside0 (Below w.heap.size w wc))
  case first =>
   have H := HC6.out
   clear HC6
   by_cases c24 : (t380 != t373) = true
   ·rw [if_pos c24] at H
    have c24b0 : (t380 != t373) = true := c24
    (try (have c24b1 : decide (t380 = t373) = false := by simpa using c24))
    (try (have c24b2 : (t380 == t373) = false := by simpa using c24))
    (try (have c24b3 : ¬ (t380 = t373) := by simpa using c24))
    clear c24
    (first | rw [c24b0] | (simp only [i64_w, i32_w]; rw [c24b0]) | skip)
    have H' := Aside0.mk H
    clear H
    go_wp2
    go_meet
    case rel => exact ⟨_, (true), (by first | rfl | (simp; done) | (simp [*]; done)), H', ⟨by first | omega | exact Nat.le_refl _⟩, ⟨bk2 BK374 NB374_382 NB374_381⟩, ⟨bk2 BK375 NB375_382 NB375_381⟩, ⟨bkp BK381⟩, ⟨bkp BK382⟩, ⟨hs_ HB⟩⟩
   ·rw [if_neg c24] at H
    have c24b0 : (t380 != t373) = false := by simpa using c24
    (try (have c24b1 : decide (t380 = t373) = true := by simpa using c24))
    (try (have c24b2 : (t380 == t373) = true := by simpa using c24))
    clear c24
    (first | rw [c24b0] | (simp only [i64_w, i32_w]; rw [c24b0]) | skip)
    by_cases c25 : (!(t376 == t369) || (!(t377 == t370))) = true
    ·rw [if_pos c25] at H
     have c25b0 : (!(t376 == t369) || (!(t377 == t370))) = true := c25
     clear c25
     have H' := Aside0.mk H
     clear H
     have hnb26 := NB381_374.out
     have hnc26 := NB374_381.out
     have hnb27 := NB381_375.out
     have hnc27 := NB375_381.out
     have hnb28 := NB381_382.out
     have hnc28 := NB382_381.out
     obtain ⟨hcz29_0, hcz29_1, hfz29_0, hfz29_1⟩ := cz2 BK381
     have hnb30 := NB374_375.out
     have hnc30 := NB375_374.out
     have hnb31 := NB374_382.out
     have hnc31 := NB382_374.out
     obtain ⟨hcz32_0, hcz32_1, hfz32_0, hfz32_1⟩ := cz2 BK374
     go_wp2
     go_meet
     case rel => exact ⟨_, (true), (by first | rfl | (simp; done) | (simp [*]; done)), H', ⟨by first | omega | exact Nat.le_refl _⟩, ⟨bk2 BK374 NB374_382 NB374_381⟩, ⟨bk2 BK375 NB375_382 NB375_381⟩, ⟨bkp BK381⟩, ⟨bkp BK382⟩, ⟨hs_ HB⟩⟩
    ·rw [if_neg c25] at H
     have c25b0 : (!(t376 == t369) || (!(t377 == t370))) = false := by simpa using c25
     clear c25
     by_cases c33 : (!(t378 == t371) || (!(t379 == t372))) = true
     ·rw [if_pos c33] at H
      have c33b0 : (!(t378 == t371) || (!(t379 == t372))) = true := c33
      clear c33
      have H' := Aside0.mk H
      clear H
      have hnb34 := NB381_374.out
      have hnc34 := NB374_381.out
      have hnb35 := NB381_375.out
      have hnc35 := NB375_381.out
      have hnb36 := NB381_382.out
      have hnc36 := NB382_381.out
      obtain ⟨hcz37_0, hcz37_1, hfz37_0, hfz37_1⟩ := cz2 BK381
      have hnb38 := NB374_375.out
      have hnc38 := NB375_374.out
      have hnb39 := NB374_382.out
      have hnc39 := NB382_374.out
      obtain ⟨hcz40_0, hcz40_1, hfz40_0, hfz40_1⟩ := cz2 BK374
      have hnb41 := NB382_375.out
      have hnc41 := NB375_382.out
      obtain ⟨hcz42_0, hcz42_1, hfz42_0, hfz42_1⟩ := cz2 BK382
      obtain ⟨hcz43_0, hcz43_1, hfz43_0, hfz43_1⟩ := cz2 BK375
      go_wp2
      go_meet
      case rel => exact ⟨_, (true), (by first | rfl | (simp; done) | (simp [*]; done)), H', ⟨by first | omega | exact Nat.le_refl _⟩, ⟨bk2 BK374 NB374_382 NB374_381⟩, ⟨bk2 BK375 NB375_382 NB375_381⟩, ⟨bkp BK381⟩, ⟨bkp BK382⟩, ⟨hs_ HB⟩⟩
     ·rw [if_neg c33] at H
      have c33b0 : (!(t378 == t371) || (!(t379 == t372))) = false := by simpa using c33
      clear c33
      have H' := Aside0.mk H
      clear H
      have hnb44 := NB381_374.out
      have hnc44 := NB374_381.out
      have hnb45 := NB381_375.out
      have hnc45 := NB375_381.out
      have hnb46 := NB381_382.out
      have hnc46 := NB382_381.out
      obtain ⟨hcz47_0, hcz47_1, hfz47_0, hfz47_1⟩ := cz2 BK381
      have hnb48 := NB374_375.out
      have hnc48 := NB375_374.out
      have hnb49 := NB374_382.out
      have hnc49 := NB382_374.out
      obtain ⟨hcz50_0, hcz50_1, hfz50_0, hfz50_1⟩ := cz2 BK374
      have hnb51 := NB382_375.out
      have hnc51 := NB375_382.out
      obtain ⟨hcz52_0, hcz52_1, hfz52_0, hfz52_1⟩ := cz2 BK382
      obtain ⟨hcz53_0, hcz53_1, hfz53_0, hfz53_1⟩ := cz2 BK375
      go_wp2
      go_meet
      case rel => exact ⟨_, (!t380), (by first | rfl | (simp; done) | (simp [*]; done)), H', ⟨by first | omega | exact Nat.le_refl _⟩, ⟨bk2 BK374 NB374_382 NB374_381⟩, ⟨bk2 BK375 NB375_382 NB375_381⟩, ⟨bkp BK381⟩, ⟨bkp BK382⟩, ⟨hs_ HB⟩⟩
  case rest =>
   clear HC6
   try clear c1
   try clear c2
   try clear c2b0
   try clear c2b1
   try clear p2
   try clear c3
   try clear c4
   try clear c5
   try clear c7
   try clear c11
   try clear c15
   try clear c16
   try clear c17
   try clear c18
   try clear c19
   try clear c21
   try clear c22
   try clear c24
   try clear c24b0
   try clear c24b1
   try clear c24b2
   try clear c25
   try clear c25b0
   try clear c26
   try clear c27
   try clear c28
   try clear c30
   try clear c31
   try clear c33
   try clear c33b0
   try clear c34
   try clear c35
   try clear c36
   try clear c38
   try clear c39
   try clear c41
   try clear c44
   try clear c45
   try clear c46
   try clear c48
   try clear c49
   try clear c51
   try clear hcz12_0
   try clear hcz12_1
   try clear hcz13_0
   try clear hcz13_1
   try clear hcz20_0
   try clear hcz20_1
   try clear hcz23_0
   try clear hcz23_1
   try clear hcz29_0
   try clear hcz29_1
   try clear hcz32_0
   try clear hcz32_1
   try clear hcz37_0
   try clear hcz37_1
   try clear hcz40_0
   try clear hcz40_1
   try clear hcz42_0
   try clear hcz42_1
   try clear hcz43_0
   try clear hcz43_1
   try clear hcz47_0
   try clear hcz47_1
   try clear hcz50_0
   try clear hcz50_1
   try clear hcz52_0
   try clear hcz52_1
   try clear hcz53_0
   try clear hcz53_1
   try clear hfz12_0
   try clear hfz12_1
   try clear hfz13_0
   try clear hfz13_1
   try clear hfz20_0
   try clear hfz20_1
   try clear hfz23_0
   try clear hfz23_1
   try clear hfz29_0
   try clear hfz29_1
   try clear hfz32_0
   try clear hfz32_1
   try clear hfz37_0
   try clear hfz37_1
   try clear hfz40_0
   try clear hfz40_1
   try clear hfz42_0
   try clear hfz42_1
   try clear hfz43_0
   try clear hfz43_1
   try clear hfz47_0
   try clear hfz47_1
   try clear hfz50_0
   try clear hfz50_1
   try clear hfz52_0
   try clear hfz52_1
   try clear hfz53_0
   try clear hfz53_1
   obtain ⟨kq, x59_5, rfl, HA, HJ5, BK374, BK375, BK381, BK382, HB⟩ := hcut
   cases kq with
   | zero => exact absurd HA.out (by simp [laws_FnTurnNeg.j0])
   | succ kj5 =>
    have H := HA.out
    clear HA
    simp only [laws_FnTurnNeg.j0] at H
    by_cases c54 : x59_5 = true
    ·subst c54
     have H1 : (if (t380 == t373) = true then (if (t376 == t369 && (t377 == t370)) = true then (some (t378 == t371 && (t379 == t372))) else (some false)) else (some false)) = some r := by rw [if_pos rfl] at H; exact H
     clear H
     have H := H1
     clear H1
     by_cases c55 : (t380 == t373) = true
     ·rw [if_pos c55] at H
      have c55b0 : (t380 == t373) = true := c55
      (try (have c55b1 : decide (t380 = t373) = true := by simpa using c55))
      (try (have c55b2 : (t380 == t373) = true := by simpa using c55))
      clear c55
      by_cases c56 : (t376 == t369 && (t377 == t370)) = true
      ·rw [if_pos c56] at H
       have c56b0 : (t376 == t369 && (t377 == t370)) = true := c56
       (try (have c56b1 : decide (t376 = t369 && (t377 == t370)) = true := by simpa using c56))
       (try (have c56b2 : (t376 == t369 && (t377 == t370)) = true := by simpa using c56))
       clear c56
       obtain rfl := Option.some.inj H
       have hnb57 := NB381_374.out
       have hnc57 := NB374_381.out
       have hnb58 := NB381_375.out
       have hnc58 := NB375_381.out
       have hnb59 := NB381_382.out
       have hnc59 := NB382_381.out
       obtain ⟨hcz60_0, hcz60_1, hfz60_0, hfz60_1⟩ := cz2 BK381
       have hnb61 := NB374_375.out
       have hnc61 := NB375_374.out
       have hnb62 := NB374_382.out
       have hnc62 := NB382_374.out
       obtain ⟨hcz63_0, hcz63_1, hfz63_0, hfz63_1⟩ := cz2 BK374
       have hnb64 := NB382_375.out
       have hnc64 := NB375_382.out
       obtain ⟨hcz65_0, hcz65_1, hfz65_0, hfz65_1⟩ := cz2 BK382
       obtain ⟨hcz66_0, hcz66_1, hfz66_0, hfz66_1⟩ := cz2 BK375
       go_wp2
       go_ret
       exact ⟨by first | rfl | (simp [errW_none, errW_some] <;> rfl) | (simp [*, errW_none, errW_some] <;> rfl), hs_ HB⟩
      ·rw [if_neg c56] at H
       have c56b0 : (t376 == t369 && (t377 == t370)) = false := by simpa using c56
       (try (have c56b1 : decide (t376 = t369 && (t377 == t370)) = false := by simpa using c56))
       (try (have c56b2 : (t376 == t369 && (t377 == t370)) = false := by simpa using c56))
       (try (have c56b3 : ¬ (t376 = t369 && (t377 == t370)) := by simpa using c56))
       clear c56
       obtain rfl := Option.some.inj H
       have hnb67 := NB381_374.out
       have hnc67 := NB374_381.out
       have hnb68 := NB381_375.out
       have hnc68 := NB375_381.out
       have hnb69 := NB381_382.out
       have hnc69 := NB382_381.out
       obtain ⟨hcz70_0, hcz70_1, hfz70_0, hfz70_1⟩ := cz2 BK381
       have hnb71 := NB374_375.out
       have hnc71 := NB375_374.out
       have hnb72 := NB374_382.out
       have hnc72 := NB382_374.out
       obtain ⟨hcz73_0, hcz73_1, hfz73_0, hfz73_1⟩ := cz2 BK374
       go_wp2
       go_ret
       exact ⟨by first | rfl | (simp [errW_none, errW_some] <;> rfl) | (simp [*, errW_none, errW_some] <;> rfl), hs_ HB⟩
     ·rw [if_neg c55] at H
      have c55b0 : (t380 == t373) = false := by simpa using c55
      (try (have c55b1 : decide (t380 = t373) = false := by simpa using c55))
      (try (have c55b2 : (t380 == t373) = false := by simpa using c55))
      (try (have c55b3 : ¬ (t380 = t373) := by simpa using c55))
      clear c55
      obtain rfl := Option.some.inj H
      go_wp2
      go_ret
      exact ⟨by first | rfl | (simp [errW_none, errW_some] <;> rfl) | (simp [*, errW_none, errW_some] <;> rfl), hs_ HB⟩
    ·replace c54 := Bool.eq_false_iff.mpr c54
     subst c54
     have H1 : ((impl_TurnBy.f kj5 (wrap64 (-t366)) (wrap64 (-t367)) t368).bind fun bt383 => ((impl_TurnBy.f kj5 t366 t367 (wrap64 (t368 + 129600000))).bind fun bt390 => (if bt383.2.2.2.2 = true then ((impl_SpanNeg.f t376 t377).bind fun bt397 => (if (bt383.1 == bt397.1 && (bt383.2.1 == bt397.2)) = true then ((impl_SpanNeg.f t378 t379).bind fun bt399 => (if (bt383.2.2.1 == bt399.1 && (bt383.2.2.2.1 == bt399.2)) = true then (if bt390.2.2.2.2 = true then (if (bt390.1 == t376 && (bt390.2.1 == t377)) = true then (some (bt390.2.2.1 == t378 && (bt390.2.2.2.1 == t379))) else (some false)) else (some true)) else (some false))) else (some false))) else (some false)))) = some r := by rw [if_neg (show ¬ (false = true) by decide)] at H; exact H
     clear H
     have H := H1
     clear H1
     replace H := Option.bind_eq_some_iff.mp H
     obtain ⟨⟨t383, t384, t385, t386, t387⟩, A740, H⟩ := H
     replace H : ((impl_TurnBy.f kj5 t366 t367 (wrap64 (t368 + 129600000))).bind fun bt390 => (if t387 = true then ((impl_SpanNeg.f t376 t377).bind fun bt397 => (if (t383 == bt397.1 && (t384 == bt397.2)) = true then ((impl_SpanNeg.f t378 t379).bind fun bt399 => (if (t385 == bt399.1 && (t386 == bt399.2)) = true then (if bt390.2.2.2.2 = true then (if (bt390.1 == t376 && (bt390.2.1 == t377)) = true then (some (bt390.2.2.1 == t378 && (bt390.2.2.2.1 == t379))) else (some false)) else (some true)) else (some false))) else (some false))) else (some false))) = some r := H
     have A74 := Aside0.mk A740
     clear A740
     replace H := Option.bind_eq_some_iff.mp H
     obtain ⟨⟨t390, t391, t392, t393, t394⟩, A750, H⟩ := H
     replace H : (if t387 = true then ((impl_SpanNeg.f t376 t377).bind fun bt397 => (if (t383 == bt397.1 && (t384 == bt397.2)) = true then ((impl_SpanNeg.f t378 t379).bind fun bt399 => (if (t385 == bt399.1 && (t386 == bt399.2)) = true then (if t394 = true then (if (t390 == t376 && (t391 == t377)) = true then (some (t392 == t378 && (t393 == t379))) else (some false)) else (some true)) else (some false))) else (some false))) else (some false)) = some r := H
     have A75 := Aside0.mk A750
     clear A750
     by_cases c76 : t387 = true
     ·subst c76
      have H1 : ((impl_SpanNeg.f t376 t377).bind fun bt397 => (if (t383 == bt397.1 && (t384 == bt397.2)) = true then ((impl_SpanNeg.f t378 t379).bind fun bt399 => (if (t385 == bt399.1 && (t386 == bt399.2)) = true then (if t394 = true then (if (t390 == t376 && (t391 == t377)) = true then (some (t392 == t378 && (t393 == t379))) else (some false)) else (some true)) else (some false))) else (some false))) = some r := by rw [if_pos rfl] at H; exact H
      clear H
      have H := H1
      clear H1
      replace H := Option.bind_eq_some_iff.mp H
      obtain ⟨⟨t397, t398⟩, A770, H⟩ := H
      replace H : (if (t383 == t397 && (t384 == t398)) = true then ((impl_SpanNeg.f t378 t379).bind fun bt399 => (if (t385 == bt399.1 && (t386 == bt399.2)) = true then (if t394 = true then (if (t390 == t376 && (t391 == t377)) = true then (some (t392 == t378 && (t393 == t379))) else (some false)) else (some true)) else (some false))) else (some false)) = some r := H
      have A77 := Aside0.mk A770
      clear A770
      by_cases c78 : (t383 == t397 && (t384 == t398)) = true
      ·rw [if_pos c78] at H
       have c78b0 : (t383 == t397 && (t384 == t398)) = true := c78
       (try (have c78b1 : decide (t383 = t397 && (t384 == t398)) = true := by simpa using c78))
       (try (have c78b2 : (t383 == t397 && (t384 == t398)) = true := by simpa using c78))
       clear c78
       replace H := Option.bind_eq_some_iff.mp H
       obtain ⟨⟨t399, t400⟩, A790, H⟩ := H
       replace H : (if (t385 == t399 && (t386 == t400)) = true then (if t394 = true then (if (t390 == t376 && (t391 == t377)) = true then (some (t392 == t378 && (t393 == t379))) else (some false)) else (some true)) else (some false)) = some r := H
       have A79 := Aside0.mk A790
       clear A790
       by_cases c80 : (t385 == t399 && (t386 == t400)) = true
       ·rw [if_pos c80] at H
        have c80b0 : (t385 == t399 && (t386 == t400)) = true := c80
        (try (have c80b1 : decide (t385 = t399 && (t386 == t400)) = true := by simpa using c80))
        (try (have c80b2 : (t385 == t399 && (t386 == t400)) = true := by simpa using c80))
        clear c80
        by_cases c81 : t394 = true
        ·subst c81
         have H1 : (if (t390 == t376 && (t391 == t377)) = true then (some (t392 == t378 && (t393 == t379))) else (some false)) = some r := by rw [if_pos rfl] at H; exact H
         clear H
         have H := H1
         clear H1
         by_cases c82 : (t390 == t376 && (t391 == t377)) = true
         ·rw [if_pos c82] at H
          have c82b0 : (t390 == t376 && (t391 == t377)) = true := c82
          (try (have c82b1 : decide (t390 = t376 && (t391 == t377)) = true := by simpa using c82))
          (try (have c82b2 : (t390 == t376 && (t391 == t377)) = true := by simpa using c82))
          clear c82
          obtain rfl := Option.some.inj H
          try go_wp2_with (first | ((with_reducible refine gate_callee (f := 16) rfl ?_); refine gL 79 Try.func16 #[.int .i64 (wrap64 (-t366)), .int .i64 (wrap64 (-t367)), .int .i64 t368] ?_; (with_reducible refine (impl_TurnBy.calls kj5 (wrap64 (-t366)) (wrap64 (-t367)) t368 t383 t384 t385 t386 true _ A74.out).mono ?_); rintro e w83 ⟨rfl, hb⟩; refine ⟨_, rfl, ?_⟩; replace BK374 := bb (bk BK374) hb; replace BK375 := bb (bk BK375) hb; replace BK381 := bb (bk BK381) hb; replace BK382 := bb (bk BK382) hb; replace HB := hbb (hs_ HB) hb; clear hb) | ((with_reducible refine gate_dst (N := 12) rfl ?_); refine bE 12 #[.int .i64 0, .int .i64 0] 23 ?_; intro gb388 hg w84 hbox hb; have BK388 := Aside0.mk (hbox); have GE388 := gw hg (hs_ HB); have GW388 := GE388; have NB374_388 := nl hg (bk BK374); have NB388_374 := ng hg (bk BK374); have NB375_388 := nl hg (bk BK375); have NB388_375 := ng hg (bk BK375); have NB381_388 := nl hg (bk BK381); have NB388_381 := ng hg (bk BK381); have NB382_388 := nl hg (bk BK382); have NB388_382 := ng hg (bk BK382); replace BK374 := bb (bk BK374) hb; replace BK375 := bb (bk BK375) hb; replace BK381 := bb (bk BK381) hb; replace BK382 := bb (bk BK382) hb; replace HB := hbb (hs_ HB) hb; clear hb hbox hg) | ((with_reducible refine gate_dst (N := 13) rfl ?_); refine bE 13 #[.int .i64 0, .int .i64 0] 23 ?_; intro gb389 hg w85 hbox hb; have BK389 := Aside0.mk (hbox); have GE389 := gw hg (hs_ HB); have GW389 := GE389; have NB374_389 := nl hg (bk BK374); have NB389_374 := ng hg (bk BK374); have NB375_389 := nl hg (bk BK375); have NB389_375 := ng hg (bk BK375); have NB381_389 := nl hg (bk BK381); have NB389_381 := ng hg (bk BK381); have NB382_389 := nl hg (bk BK382); have NB389_382 := ng hg (bk BK382); have NB388_389 := nl hg (bk BK388); have NB389_388 := ng hg (bk BK388); replace BK374 := bb (bk BK374) hb; replace BK375 := bb (bk BK375) hb; replace BK381 := bb (bk BK381) hb; replace BK382 := bb (bk BK382) hb; replace BK388 := bb (bk BK388) hb; replace HB := hbb (hs_ HB) hb; clear hb hbox hg; have hnb86 := NB388_374.out; have hnc86 := NB374_388.out; have hnb87 := NB388_375.out; have hnc87 := NB375_388.out; have hnb88 := NB388_381.out; have hnc88 := NB381_388.out; have hnb89 := NB388_382.out; have hnc89 := NB382_388.out; have hnb90 := NB388_389.out; have hnc90 := NB389_388.out; obtain ⟨hcz91_0, hcz91_1, hfz91_0, hfz91_1⟩ := cz2 BK388; have hnb92 := NB389_374.out; have hnc92 := NB374_389.out; have hnb93 := NB389_375.out; have hnc93 := NB375_389.out; have hnb94 := NB389_381.out; have hnc94 := NB381_389.out; have hnb95 := NB389_382.out; have hnc95 := NB382_389.out; obtain ⟨hcz96_0, hcz96_1, hfz96_0, hfz96_1⟩ := cz2 BK389) | ((with_reducible refine gate_callee (f := 16) rfl ?_); refine gL 88 Try.func16 #[.int .i64 t366, .int .i64 t367, .int .i64 (wrap64 (t368 + 129600000))] ?_; (with_reducible refine (impl_TurnBy.calls kj5 t366 t367 (wrap64 (t368 + 129600000)) t390 t391 t392 t393 true _ A75.out).mono ?_); rintro e w97 ⟨rfl, hb⟩; refine ⟨_, rfl, ?_⟩; replace BK374 := bb (bk2 BK374 NB374_389 NB374_388) hb; replace BK375 := bb (bk2 BK375 NB375_389 NB375_388) hb; replace BK381 := bb (bk2 BK381 NB381_389 NB381_388) hb; replace BK382 := bb (bk2 BK382 NB382_389 NB382_388) hb; replace BK388 := bb (o := .cells #[.int .i64 t383, .int .i64 t384] 23 (0, 0)) (bkp BK388) hb; replace BK389 := bb (o := .cells #[.int .i64 t385, .int .i64 t386] 23 (0, 0)) (bkp BK389) hb; replace HB := hbb (hs_ HB) hb; clear hb) | ((with_reducible refine gate_dst (N := 15) rfl ?_); refine bE 15 #[.int .i64 0, .int .i64 0] 23 ?_; intro gb395 hg w98 hbox hb; have BK395 := Aside0.mk (hbox); have GE395 := gw hg (hs_ HB); have GW395 := GE395; have NB374_395 := nl hg (bk BK374); have NB395_374 := ng hg (bk BK374); have NB375_395 := nl hg (bk BK375); have NB395_375 := ng hg (bk BK375); have NB381_395 := nl hg (bk BK381); have NB395_381 := ng hg (bk BK381); have NB382_395 := nl hg (bk BK382); have NB395_382 := ng hg (bk BK382); have NB388_395 := nl hg (bk BK388); have NB395_388 := ng hg (bk BK388); have NB389_395 := nl hg (bk BK389); have NB395_389 := ng hg (bk BK389); replace BK374 := bb (bk BK374) hb; replace BK375 := bb (bk BK375) hb; replace BK381 := bb (bk BK381) hb; replace BK382 := bb (bk BK382) hb; replace BK388 := bb (bk BK388) hb; replace BK389 := bb (bk BK389) hb; replace HB := hbb (hs_ HB) hb; clear hb hbox hg) | ((with_reducible refine gate_dst (N := 16) rfl ?_); refine bE 16 #[.int .i64 0, .int .i64 0] 23 ?_; intro gb396 hg w99 hbox hb; have BK396 := Aside0.mk (hbox); have GE396 := gw hg (hs_ HB); have GW396 := GE396; have NB374_396 := nl hg (bk BK374); have NB396_374 := ng hg (bk BK374); have NB375_396 := nl hg (bk BK375); have NB396_375 := ng hg (bk BK375); have NB381_396 := nl hg (bk BK381); have NB396_381 := ng hg (bk BK381); have NB382_396 := nl hg (bk BK382); have NB396_382 := ng hg (bk BK382); have NB388_396 := nl hg (bk BK388); have NB396_388 := ng hg (bk BK388); have NB389_396 := nl hg (bk BK389); have NB396_389 := ng hg (bk BK389); have NB395_396 := nl hg (bk BK395); have NB396_395 := ng hg (bk BK395); replace BK374 := bb (bk BK374) hb; replace BK375 := bb (bk BK375) hb; replace BK381 := bb (bk BK381) hb; replace BK382 := bb (bk BK382) hb; replace BK388 := bb (bk BK388) hb; replace BK389 := bb (bk BK389) hb; replace BK395 := bb (bk BK395) hb; replace HB := hbb (hs_ HB) hb; clear hb hbox hg; have hnb100 := NB395_374.out; have hnc100 := NB374_395.out; have hnb101 := NB395_375.out; have hnc101 := NB375_395.out; have hnb102 := NB395_381.out; have hnc102 := NB381_395.out; have hnb103 := NB395_382.out; have hnc103 := NB382_395.out; have hnb104 := NB395_388.out; have hnc104 := NB388_395.out; have hnb105 := NB395_389.out; have hnc105 := NB389_395.out; have hnb106 := NB395_396.out; have hnc106 := NB396_395.out; obtain ⟨hcz107_0, hcz107_1, hfz107_0, hfz107_1⟩ := cz2 BK395; have hnb108 := NB396_374.out; have hnc108 := NB374_396.out; have hnb109 := NB396_375.out; have hnc109 := NB375_396.out; have hnb110 := NB396_381.out; have hnc110 := NB381_396.out; have hnb111 := NB396_382.out; have hnc111 := NB382_396.out; have hnb112 := NB396_388.out; have hnc112 := NB388_396.out; have hnb113 := NB396_389.out; have hnc113 := NB389_396.out; obtain ⟨hcz114_0, hcz114_1, hfz114_0, hfz114_1⟩ := cz2 BK396))
          have n0_ : Aside0 (((((w99.setCell ⟨gb395, 0, none⟩ (.int .i64 t390)).setCell ⟨gb395, 1, none⟩ (.int .i64 t391)).setCell ⟨gb396, 0, none⟩ (.int .i64 t392)).setCell ⟨gb396, 1, none⟩ (.int .i64 t393)).heap[gb374]? = some (.cells #[.int .i64 t369, .int .i64 t370] 23 (0, 0))) := ⟨bk2 BK374 NB374_396 NB374_395⟩
          have n1_ : Aside0 (((((w99.setCell ⟨gb395, 0, none⟩ (.int .i64 t390)).setCell ⟨gb395, 1, none⟩ (.int .i64 t391)).setCell ⟨gb396, 0, none⟩ (.int .i64 t392)).setCell ⟨gb396, 1, none⟩ (.int .i64 t393)).heap[gb375]? = some (.cells #[.int .i64 t371, .int .i64 t372] 23 (0, 0))) := ⟨bk2 BK375 NB375_396 NB375_395⟩
          have n2_ : Aside0 (((((w99.setCell ⟨gb395, 0, none⟩ (.int .i64 t390)).setCell ⟨gb395, 1, none⟩ (.int .i64 t391)).setCell ⟨gb396, 0, none⟩ (.int .i64 t392)).setCell ⟨gb396, 1, none⟩ (.int .i64 t393)).heap[gb381]? = some (.cells #[.int .i64 t376, .int .i64 t377] 23 (0, 0))) := ⟨bk2 BK381 NB381_396 NB381_395⟩
          have n3_ : Aside0 (((((w99.setCell ⟨gb395, 0, none⟩ (.int .i64 t390)).setCell ⟨gb395, 1, none⟩ (.int .i64 t391)).setCell ⟨gb396, 0, none⟩ (.int .i64 t392)).setCell ⟨gb396, 1, none⟩ (.int .i64 t393)).heap[gb382]? = some (.cells #[.int .i64 t378, .int .i64 t379] 23 (0, 0))) := ⟨bk2 BK382 NB382_396 NB382_395⟩
          have n4_ : Aside0 (((((w99.setCell ⟨gb395, 0, none⟩ (.int .i64 t390)).setCell ⟨gb395, 1, none⟩ (.int .i64 t391)).setCell ⟨gb396, 0, none⟩ (.int .i64 t392)).setCell ⟨gb396, 1, none⟩ (.int .i64 t393)).heap[gb388]? = some (.cells #[.int .i64 t383, .int .i64 t384] 23 (0, 0))) := ⟨bk2 BK388 NB388_396 NB388_395⟩
          have n5_ : Aside0 (((((w99.setCell ⟨gb395, 0, none⟩ (.int .i64 t390)).setCell ⟨gb395, 1, none⟩ (.int .i64 t391)).setCell ⟨gb396, 0, none⟩ (.int .i64 t392)).setCell ⟨gb396, 1, none⟩ (.int .i64 t393)).heap[gb389]? = some (.cells #[.int .i64 t385, .int .i64 t386] 23 (0, 0))) := ⟨bk2 BK389 NB389_396 NB389_395⟩
          have n6_ : Aside0 (((((w99.setCell ⟨gb395, 0, none⟩ (.int .i64 t390)).setCell ⟨gb395, 1, none⟩ (.int .i64 t391)).setCell ⟨gb396, 0, none⟩ (.int .i64 t392)).setCell ⟨gb396, 1, none⟩ (.int .i64 t393)).heap[gb395]? = some (.cells #[.int .i64 t390, .int .i64 t391] 23 (0, 0))) := ⟨bkp BK395⟩
          have n7_ : Aside0 (((((w99.setCell ⟨gb395, 0, none⟩ (.int .i64 t390)).setCell ⟨gb395, 1, none⟩ (.int .i64 t391)).setCell ⟨gb396, 0, none⟩ (.int .i64 t392)).setCell ⟨gb396, 1, none⟩ (.int .i64 t393)).heap[gb396]? = some (.cells #[.int .i64 t392, .int .i64 t393] 23 (0, 0))) := ⟨bkp BK396⟩
          have n8_ : Aside0 (Below w.heap.size w ((((w99.setCell ⟨gb395, 0, none⟩ (.int .i64 t390)).setCell ⟨gb395, 1, none⟩ (.int .i64 t391)).setCell ⟨gb396, 0, none⟩ (.int .i64 t392)).setCell ⟨gb396, 1, none⟩ (.int .i64 t393))) := ⟨hs_ HB⟩
          (try clear BK374)
          (try clear BK375)
          (try clear BK381)
          (try clear BK382)
          (try clear BK388)
          (try clear BK389)
          (try clear BK395)
          (try clear BK396)
          (try clear HB)
          generalize ((((w99.setCell ⟨gb395, 0, none⟩ (.int .i64 t390)).setCell ⟨gb395, 1, none⟩ (.int .i64 t391)).setCell ⟨gb396, 0, none⟩ (.int .i64 t392)).setCell ⟨gb396, 1, none⟩ (.int .i64 t393)) = w115 at n0_ n1_ n2_ n3_ n4_ n5_ n6_ n7_ n8_ ⊢
          have BK374 := n0_
          have BK375 := n1_
          have BK381 := n2_
          have BK382 := n3_
          have BK388 := n4_
          have BK389 := n5_
          have BK395 := n6_
          have BK396 := n7_
          have HB := n8_
          clear n0_ n1_ n2_ n3_ n4_ n5_ n6_ n7_ n8_
          replace BK374 := Aside0.mk (blk_drew BK374.out)
          replace BK375 := Aside0.mk (blk_drew BK375.out)
          replace BK381 := Aside0.mk (blk_drew BK381.out)
          replace BK382 := Aside0.mk (blk_drew BK382.out)
          replace BK388 := Aside0.mk (blk_drew BK388.out)
          replace BK389 := Aside0.mk (blk_drew BK389.out)
          replace BK395 := Aside0.mk (blk_drew BK395.out)
          replace BK396 := Aside0.mk (blk_drew BK396.out)
          replace HB := Aside0.mk (below_drew1 HB.out)
          refine start_ (n := 28) (S := fun w' => w'.cell? ⟨gb388, 0, none⟩ = some (.int .i64 t383) ∧ w'.cell? ⟨gb388, 1, none⟩ = some (.int .i64 t384) ∧ w'.cell? ⟨gb381, 0, none⟩ = some (.int .i64 t376) ∧ w'.cell? ⟨gb381, 1, none⟩ = some (.int .i64 t377) ∧ w'.cell? ⟨gb389, 0, none⟩ = some (.int .i64 t385) ∧ w'.cell? ⟨gb389, 1, none⟩ = some (.int .i64 t386) ∧ w'.cell? ⟨gb382, 0, none⟩ = some (.int .i64 t378) ∧ w'.cell? ⟨gb382, 1, none⟩ = some (.int .i64 t379) ∧ w'.cell? ⟨gb395, 0, none⟩ = some (.int .i64 t390) ∧ w'.cell? ⟨gb395, 1, none⟩ = some (.int .i64 t391) ∧ w'.cell? ⟨gb396, 0, none⟩ = some (.int .i64 t392) ∧ w'.cell? ⟨gb396, 1, none⟩ = some (.int .i64 t393)) (ds := []) #[false, false, false, false, false, false, false, false, false, false, false, false, false, false, false, false, false, false, false, false, false, false, false, false, false, false, false, false] (by kernel_rfl) rfl rfl ⟨(blk_cell BK388.out 0).trans rfl, (blk_cell BK388.out 1).trans rfl, (blk_cell BK381.out 0).trans rfl, (blk_cell BK381.out 1).trans rfl, (blk_cell BK389.out 0).trans rfl, (blk_cell BK389.out 1).trans rfl, (blk_cell BK382.out 0).trans rfl, (blk_cell BK382.out 1).trans rfl, (blk_cell BK395.out 0).trans rfl, (blk_cell BK395.out 1).trans rfl, (blk_cell BK396.out 0).trans rfl, (blk_cell BK396.out 1).trans rfl⟩ (fun hHeld => ?_); refine with_tabW laws_FnTurnNeg.tab10 laws_FnTurnNeg.bits10 (fun HT_ HW_ => ?_)
          generalize w115.drew = w116 at BK374 BK375 BK381 BK382 BK388 BK389 BK395 BK396 HB hHeld ⊢
          refine pure_ (i := 0) (N := some 92) (v := ?_) (a' := ?_) #[true, false, false, false, false, false, false, false, false, false, false, false, false, false, false, false, false, false, false, false, false, false, false, false, false, false, false, false] rfl rfl (any_of HT_.out (by kernel_rfl)) (fun _ _ _ h => h) (Or.inl ⟨by rfl, ?_⟩) ?_ ?_
          rotate_left
          ·intro w'
           go_simp
           with_reducible rfl
          rotate_left
          ·simp only [Act.put, List.setIfInBounds_toArray, List.set_cons_zero, List.set_cons_succ, i64_w, i32_w]
           rfl
          refine pure_ (i := 1) (N := some 93) (v := ?_) (a' := ?_) #[true, true, false, false, false, false, false, false, false, false, false, false, false, false, false, false, false, false, false, false, false, false, false, false, false, false, false, false] rfl rfl (any_of HT_.out (by kernel_rfl)) (fun _ _ _ h => h) (Or.inl ⟨by rfl, ?_⟩) ?_ ?_
          rotate_left
          ·intro w'
           go_simp
           with_reducible rfl
          rotate_left
          ·simp only [Act.put, List.setIfInBounds_toArray, List.set_cons_zero, List.set_cons_succ, i64_w, i32_w]
           rfl
          refine take_ (i := 2) (N := some 94) (v := ?_) (a' := ?_) #[true, true, true, false, false, false, false, false, false, false, false, false, false, false, false, false, false, false, false, false, false, false, false, false, false, false, false, false] rfl rfl (take_ofW HT_.out HW_.out (by kernel_rfl)) (fun _ _ _ h => h) (Or.inl ⟨by rfl, ?_⟩) hHeld ?_ ?_
          rotate_left
          ·rintro w' ⟨s0, s1, s2, s3, s4, s5, s6, s7, s8, s9, s10, s11⟩
           go_simp
           with_reducible rfl
          rotate_left
          ·simp only [Act.put, List.setIfInBounds_toArray, List.set_cons_zero, List.set_cons_succ, i64_w, i32_w]
           rfl
          refine take_ (i := 3) (N := some 95) (v := ?_) (a' := ?_) #[true, true, true, true, false, false, false, false, false, false, false, false, false, false, false, false, false, false, false, false, false, false, false, false, false, false, false, false] rfl rfl (take_ofW HT_.out HW_.out (by kernel_rfl)) (fun _ _ _ h => h) (Or.inl ⟨by rfl, ?_⟩) hHeld ?_ ?_
          rotate_left
          ·rintro w' ⟨s0, s1, s2, s3, s4, s5, s6, s7, s8, s9, s10, s11⟩
           go_simp
           with_reducible rfl
          rotate_left
          ·simp only [Act.put, List.setIfInBounds_toArray, List.set_cons_zero, List.set_cons_succ, i64_w, i32_w]
           rfl
          refine one_ (i := 4) (N := some 96) #[true, true, true, true, true, false, false, false, false, false, false, false, false, false, false, false, false, false, false, false, false, false, false, false, false, false, false, false] rfl rfl (one_of HT_.out (by kernel_rfl)) (by decide) (fun K hK => ?_)
          refine gS Try.func27 #[.agg #[.int .i64 t376, .int .i64 t377]] ?_
          with_reducible refine (impl_SpanNeg.calls t376 t377 t397 t398 _ A77.out).mono ?_
          rintro e w117 ⟨rfl, hb⟩
          refine ⟨_, rfl, ?_⟩
          replace BK374 := bb (bk BK374) hb
          replace BK375 := bb (bk BK375) hb
          replace BK381 := bb (bk BK381) hb
          replace BK382 := bb (bk BK382) hb
          replace BK388 := bb (bk BK388) hb
          replace BK389 := bb (bk BK389) hb
          replace BK395 := bb (bk BK395) hb
          replace BK396 := bb (bk BK396) hb
          replace HB := hbb (hs_ HB) hb
          clear hb
          refine hK.out _ _ ⟨(blk_cell BK388.out 0).trans rfl, (blk_cell BK388.out 1).trans rfl, (blk_cell BK381.out 0).trans rfl, (blk_cell BK381.out 1).trans rfl, (blk_cell BK389.out 0).trans rfl, (blk_cell BK389.out 1).trans rfl, (blk_cell BK382.out 0).trans rfl, (blk_cell BK382.out 1).trans rfl, (blk_cell BK395.out 0).trans rfl, (blk_cell BK395.out 1).trans rfl, (blk_cell BK396.out 0).trans rfl, (blk_cell BK396.out 1).trans rfl⟩ (fun hHeld => ?_)
          clear hK K
          refine norm_ (a' := ?_) ?_ ?_
          rotate_left
          ·show Act.put _ (some 96) _ = _
           simp only [Act.put, List.setIfInBounds_toArray, List.set_cons_zero, List.set_cons_succ, i64_w, i32_w]
           rfl
          refine pure_ (i := 5) (N := some 97) (v := ?_) (a' := ?_) #[true, true, true, true, true, true, false, false, false, false, false, false, false, false, false, false, false, false, false, false, false, false, false, false, false, false, false, false] rfl rfl (any_of HT_.out (by kernel_rfl)) (fun _ _ _ h => h) (Or.inl ⟨by rfl, ?_⟩) ?_ ?_
          rotate_left
          ·intro w'
           go_simp
           with_reducible rfl
          rotate_left
          ·simp only [Act.put, List.setIfInBounds_toArray, List.set_cons_zero, List.set_cons_succ, i64_w, i32_w]
           rfl
          refine pure_ (i := 6) (N := some 98) (v := ?_) (a' := ?_) #[true, true, true, true, true, true, true, false, false, false, false, false, false, false, false, false, false, false, false, false, false, false, false, false, false, false, false, false] rfl rfl (any_of HT_.out (by kernel_rfl)) (fun _ _ _ h => h) (Or.inl ⟨by rfl, ?_⟩) ?_ ?_
          rotate_left
          ·intro w'
           go_simp
           with_reducible rfl
          rotate_left
          ·simp only [Act.put, List.setIfInBounds_toArray, List.set_cons_zero, List.set_cons_succ, i64_w, i32_w]
           rfl
          refine pure_ (i := 7) (N := some 99) (v := ?_) (a' := ?_) #[true, true, true, true, true, true, true, true, false, false, false, false, false, false, false, false, false, false, false, false, false, false, false, false, false, false, false, false] rfl rfl (any_of HT_.out (by kernel_rfl)) (fun _ _ _ h => h) (Or.inl ⟨by rfl, ?_⟩) ?_ ?_
          rotate_left
          ·intro w'
           go_simp
           with_reducible rfl
          rotate_left
          ·simp only [Act.put, List.setIfInBounds_toArray, List.set_cons_zero, List.set_cons_succ, i64_w, i32_w]
           rfl
          refine take_ (i := 8) (N := some 100) (v := ?_) (a' := ?_) #[true, true, true, true, true, true, true, true, true, false, false, false, false, false, false, false, false, false, false, false, false, false, false, false, false, false, false, false] rfl rfl (take_ofW HT_.out HW_.out (by kernel_rfl)) (fun _ _ _ h => h) (Or.inl ⟨by rfl, ?_⟩) hHeld ?_ ?_
          rotate_left
          ·rintro w' ⟨s0, s1, s2, s3, s4, s5, s6, s7, s8, s9, s10, s11⟩
           go_simp
           with_reducible rfl
          rotate_left
          ·simp only [Act.put, List.setIfInBounds_toArray, List.set_cons_zero, List.set_cons_succ, i64_w, i32_w]
           rfl
          refine take_ (i := 9) (N := some 101) (v := ?_) (a' := ?_) #[true, true, true, true, true, true, true, true, true, true, false, false, false, false, false, false, false, false, false, false, false, false, false, false, false, false, false, false] rfl rfl (take_ofW HT_.out HW_.out (by kernel_rfl)) (fun _ _ _ h => h) (Or.inl ⟨by rfl, ?_⟩) hHeld ?_ ?_
          rotate_left
          ·rintro w' ⟨s0, s1, s2, s3, s4, s5, s6, s7, s8, s9, s10, s11⟩
           go_simp
           with_reducible rfl
          rotate_left
          ·simp only [Act.put, List.setIfInBounds_toArray, List.set_cons_zero, List.set_cons_succ, i64_w, i32_w]
           rfl
          refine one_ (i := 10) (N := some 102) #[true, true, true, true, true, true, true, true, true, true, true, false, false, false, false, false, false, false, false, false, false, false, false, false, false, false, false, false] rfl rfl (one_of HT_.out (by kernel_rfl)) (by decide) (fun K hK => ?_)
          refine gS Try.func27 #[.agg #[.int .i64 t378, .int .i64 t379]] ?_
          with_reducible refine (impl_SpanNeg.calls t378 t379 t399 t400 _ A79.out).mono ?_
          rintro e w118 ⟨rfl, hb⟩
          refine ⟨_, rfl, ?_⟩
          replace BK374 := bb (bk BK374) hb
          replace BK375 := bb (bk BK375) hb
          replace BK381 := bb (bk BK381) hb
          replace BK382 := bb (bk BK382) hb
          replace BK388 := bb (bk BK388) hb
          replace BK389 := bb (bk BK389) hb
          replace BK395 := bb (bk BK395) hb
          replace BK396 := bb (bk BK396) hb
          replace HB := hbb (hs_ HB) hb
          clear hb
          refine hK.out _ _ ⟨(blk_cell BK388.out 0).trans rfl, (blk_cell BK388.out 1).trans rfl, (blk_cell BK381.out 0).trans rfl, (blk_cell BK381.out 1).trans rfl, (blk_cell BK389.out 0).trans rfl, (blk_cell BK389.out 1).trans rfl, (blk_cell BK382.out 0).trans rfl, (blk_cell BK382.out 1).trans rfl, (blk_cell BK395.out 0).trans rfl, (blk_cell BK395.out 1).trans rfl, (blk_cell BK396.out 0).trans rfl, (blk_cell BK396.out 1).trans rfl⟩ (fun hHeld => ?_)
          clear hK K
          refine norm_ (a' := ?_) ?_ ?_
          rotate_left
          ·show Act.put _ (some 102) _ = _
           simp only [Act.put, List.setIfInBounds_toArray, List.set_cons_zero, List.set_cons_succ, i64_w, i32_w]
           rfl
          refine pure_ (i := 11) (N := some 103) (v := ?_) (a' := ?_) #[true, true, true, true, true, true, true, true, true, true, true, true, false, false, false, false, false, false, false, false, false, false, false, false, false, false, false, false] rfl rfl (any_of HT_.out (by kernel_rfl)) (fun _ _ _ h => h) (Or.inl ⟨by rfl, ?_⟩) ?_ ?_
          rotate_left
          ·intro w'
           go_simp
           with_reducible rfl
          rotate_left
          ·simp only [Act.put, List.setIfInBounds_toArray, List.set_cons_zero, List.set_cons_succ, i64_w, i32_w]
           rfl
          refine pure_ (i := 12) (N := some 104) (v := ?_) (a' := ?_) #[true, true, true, true, true, true, true, true, true, true, true, true, true, false, false, false, false, false, false, false, false, false, false, false, false, false, false, false] rfl rfl (any_of HT_.out (by kernel_rfl)) (fun _ _ _ h => h) (Or.inl ⟨by rfl, ?_⟩) ?_ ?_
          rotate_left
          ·intro w'
           go_simp
           with_reducible rfl
          rotate_left
          ·simp only [Act.put, List.setIfInBounds_toArray, List.set_cons_zero, List.set_cons_succ, i64_w, i32_w]
           rfl
          refine pure_ (i := 13) (N := some 105) (v := ?_) (a' := ?_) #[true, true, true, true, true, true, true, true, true, true, true, true, true, true, false, false, false, false, false, false, false, false, false, false, false, false, false, false] rfl rfl (any_of HT_.out (by kernel_rfl)) (fun _ _ _ h => h) (Or.inl ⟨by rfl, ?_⟩) ?_ ?_
          rotate_left
          ·intro w'
           go_simp
           with_reducible rfl
          rotate_left
          ·simp only [Act.put, List.setIfInBounds_toArray, List.set_cons_zero, List.set_cons_succ, i64_w, i32_w]
           rfl
          refine pure_ (i := 14) (N := some 106) (v := ?_) (a' := ?_) #[true, true, true, true, true, true, true, true, true, true, true, true, true, true, true, false, false, false, false, false, false, false, false, false, false, false, false, false] rfl rfl (any_of HT_.out (by kernel_rfl)) (fun _ _ _ h => h) (Or.inl ⟨by rfl, ?_⟩) ?_ ?_
          rotate_left
          ·intro w'
           go_simp
           with_reducible rfl
          rotate_left
          ·simp only [Act.put, List.setIfInBounds_toArray, List.set_cons_zero, List.set_cons_succ, i64_w, i32_w]
           rfl
          refine pure_ (i := 15) (N := some 107) (v := ?_) (a' := ?_) #[true, true, true, true, true, true, true, true, true, true, true, true, true, true, true, true, false, false, false, false, false, false, false, false, false, false, false, false] rfl rfl (any_of HT_.out (by kernel_rfl)) (fun _ _ _ h => h) (Or.inl ⟨by rfl, ?_⟩) ?_ ?_
          rotate_left
          ·intro w'
           go_simp
           with_reducible rfl
          rotate_left
          ·simp only [Act.put, List.setIfInBounds_toArray, List.set_cons_zero, List.set_cons_succ, i64_w, i32_w]
           rfl
          refine pure_ (i := 16) (N := some 108) (v := ?_) (a' := ?_) #[true, true, true, true, true, true, true, true, true, true, true, true, true, true, true, true, true, false, false, false, false, false, false, false, false, false, false, false] rfl rfl (any_of HT_.out (by kernel_rfl)) (fun _ _ _ h => h) (Or.inl ⟨by rfl, ?_⟩) ?_ ?_
          rotate_left
          ·intro w'
           go_simp
           with_reducible rfl
          rotate_left
          ·simp only [Act.put, List.setIfInBounds_toArray, List.set_cons_zero, List.set_cons_succ, i64_w, i32_w]
           rfl
          refine take_ (i := 17) (N := some 109) (v := ?_) (a' := ?_) #[true, true, true, true, true, true, true, true, true, true, true, true, true, true, true, true, true, true, false, false, false, false, false, false, false, false, false, false] rfl rfl (take_ofW HT_.out HW_.out (by kernel_rfl)) (fun _ _ _ h => h) (Or.inl ⟨by rfl, ?_⟩) hHeld ?_ ?_
          rotate_left
          ·rintro w' ⟨s0, s1, s2, s3, s4, s5, s6, s7, s8, s9, s10, s11⟩
           go_simp
           with_reducible rfl
          rotate_left
          ·simp only [Act.put, List.setIfInBounds_toArray, List.set_cons_zero, List.set_cons_succ, i64_w, i32_w]
           rfl
          refine take_ (i := 18) (N := some 110) (v := ?_) (a' := ?_) #[true, true, true, true, true, true, true, true, true, true, true, true, true, true, true, true, true, true, true, false, false, false, false, false, false, false, false, false] rfl rfl (take_ofW HT_.out HW_.out (by kernel_rfl)) (fun _ _ _ h => h) (Or.inl ⟨by rfl, ?_⟩) hHeld ?_ ?_
          rotate_left
          ·rintro w' ⟨s0, s1, s2, s3, s4, s5, s6, s7, s8, s9, s10, s11⟩
           go_simp
           with_reducible rfl
          rotate_left
          ·simp only [Act.put, List.setIfInBounds_toArray, List.set_cons_zero, List.set_cons_succ, i64_w, i32_w]
           rfl
          refine pure_ (i := 19) (N := some 111) (v := ?_) (a' := ?_) #[true, true, true, true, true, true, true, true, true, true, true, true, true, true, true, true, true, true, true, true, false, false, false, false, false, false, false, false] rfl rfl (any_of HT_.out (by kernel_rfl)) (fun _ _ _ h => h) (Or.inl ⟨by rfl, ?_⟩) ?_ ?_
          rotate_left
          ·intro w'
           go_simp
           with_reducible rfl
          rotate_left
          ·simp only [Act.put, List.setIfInBounds_toArray, List.set_cons_zero, List.set_cons_succ, i64_w, i32_w]
           rfl
          refine pure_ (i := 20) (N := some 112) (v := ?_) (a' := ?_) #[true, true, true, true, true, true, true, true, true, true, true, true, true, true, true, true, true, true, true, true, true, false, false, false, false, false, false, false] rfl rfl (any_of HT_.out (by kernel_rfl)) (fun _ _ _ h => h) (Or.inl ⟨by rfl, ?_⟩) ?_ ?_
          rotate_left
          ·intro w'
           go_simp
           with_reducible rfl
          rotate_left
          ·simp only [Act.put, List.setIfInBounds_toArray, List.set_cons_zero, List.set_cons_succ, i64_w, i32_w]
           rfl
          refine take_ (i := 21) (N := some 113) (v := ?_) (a' := ?_) #[true, true, true, true, true, true, true, true, true, true, true, true, true, true, true, true, true, true, true, true, true, true, false, false, false, false, false, false] rfl rfl (take_ofW HT_.out HW_.out (by kernel_rfl)) (fun _ _ _ h => h) (Or.inl ⟨by rfl, ?_⟩) hHeld ?_ ?_
          rotate_left
          ·rintro w' ⟨s0, s1, s2, s3, s4, s5, s6, s7, s8, s9, s10, s11⟩
           go_simp
           with_reducible rfl
          rotate_left
          ·simp only [Act.put, List.setIfInBounds_toArray, List.set_cons_zero, List.set_cons_succ, i64_w, i32_w]
           rfl
          refine take_ (i := 22) (N := some 114) (v := ?_) (a' := ?_) #[true, true, true, true, true, true, true, true, true, true, true, true, true, true, true, true, true, true, true, true, true, true, true, false, false, false, false, false] rfl rfl (take_ofW HT_.out HW_.out (by kernel_rfl)) (fun _ _ _ h => h) (Or.inl ⟨by rfl, ?_⟩) hHeld ?_ ?_
          rotate_left
          ·rintro w' ⟨s0, s1, s2, s3, s4, s5, s6, s7, s8, s9, s10, s11⟩
           go_simp
           with_reducible rfl
          rotate_left
          ·simp only [Act.put, List.setIfInBounds_toArray, List.set_cons_zero, List.set_cons_succ, i64_w, i32_w]
           rfl
          refine pure_ (i := 23) (N := some 115) (v := ?_) (a' := ?_) #[true, true, true, true, true, true, true, true, true, true, true, true, true, true, true, true, true, true, true, true, true, true, true, true, false, false, false, false] rfl rfl (any_of HT_.out (by kernel_rfl)) (fun _ _ _ h => h) (Or.inl ⟨by rfl, ?_⟩) ?_ ?_
          rotate_left
          ·intro w'
           go_simp
           with_reducible rfl
          rotate_left
          ·simp only [Act.put, List.setIfInBounds_toArray, List.set_cons_zero, List.set_cons_succ, i64_w, i32_w]
           rfl
          refine pure_ (i := 24) (N := some 116) (v := ?_) (a' := ?_) #[true, true, true, true, true, true, true, true, true, true, true, true, true, true, true, true, true, true, true, true, true, true, true, true, true, false, false, false] rfl rfl (any_of HT_.out (by kernel_rfl)) (fun _ _ _ h => h) (Or.inl ⟨by rfl, ?_⟩) ?_ ?_
          rotate_left
          ·intro w'
           go_simp
           with_reducible rfl
          rotate_left
          ·simp only [Act.put, List.setIfInBounds_toArray, List.set_cons_zero, List.set_cons_succ, i64_w, i32_w]
           rfl
          refine pure_ (i := 25) (N := some 117) (v := ?_) (a' := ?_) #[true, true, true, true, true, true, true, true, true, true, true, true, true, true, true, true, true, true, true, true, true, true, true, true, true, true, false, false] rfl rfl (any_of HT_.out (by kernel_rfl)) (fun _ _ _ h => h) (Or.inl ⟨by rfl, ?_⟩) ?_ ?_
          rotate_left
          ·intro w'
           go_simp
           with_reducible rfl
          rotate_left
          ·simp only [Act.put, List.setIfInBounds_toArray, List.set_cons_zero, List.set_cons_succ, i64_w, i32_w]
           rfl
          refine pure_ (i := 26) (N := some 118) (v := ?_) (a' := ?_) #[true, true, true, true, true, true, true, true, true, true, true, true, true, true, true, true, true, true, true, true, true, true, true, true, true, true, true, false] rfl rfl (any_of HT_.out (by kernel_rfl)) (fun _ _ _ h => h) (Or.inl ⟨by rfl, ?_⟩) ?_ ?_
          rotate_left
          ·intro w'
           go_simp
           with_reducible rfl
          rotate_left
          ·simp only [Act.put, List.setIfInBounds_toArray, List.set_cons_zero, List.set_cons_succ, i64_w, i32_w]
           rfl
          refine pure_ (i := 27) (N := some 2) (v := ?_) (a' := ?_) #[true, true, true, true, true, true, true, true, true, true, true, true, true, true, true, true, true, true, true, true, true, true, true, true, true, true, true, true] rfl rfl (any_of HT_.out (by kernel_rfl)) (fun _ _ _ h => h) (Or.inl ⟨by rfl, ?_⟩) ?_ ?_
          rotate_left
          ·intro w'
           go_simp
           with_reducible rfl
          rotate_left
          ·simp only [Act.put, List.setIfInBounds_toArray, List.set_cons_zero, List.set_cons_succ, i64_w, i32_w]
           rfl
          refine done_ (done_of HT_.out (by kernel_rfl)) ?_
          try go_wp2
          go_ret
          exact ⟨by first | rfl | (simp [errW_none, errW_some] <;> rfl) | (simp [*, errW_none, errW_some] <;> rfl), hs_ HB⟩
         ·rw [if_neg c82] at H
          have c82b0 : (t390 == t376 && (t391 == t377)) = false := by simpa using c82
          (try (have c82b1 : decide (t390 = t376 && (t391 == t377)) = false := by simpa using c82))
          (try (have c82b2 : (t390 == t376 && (t391 == t377)) = false := by simpa using c82))
          (try (have c82b3 : ¬ (t390 = t376 && (t391 == t377)) := by simpa using c82))
          clear c82
          obtain rfl := Option.some.inj H
          try go_wp2_with (first | ((with_reducible refine gate_callee (f := 16) rfl ?_); refine gL 79 Try.func16 #[.int .i64 (wrap64 (-t366)), .int .i64 (wrap64 (-t367)), .int .i64 t368] ?_; (with_reducible refine (impl_TurnBy.calls kj5 (wrap64 (-t366)) (wrap64 (-t367)) t368 t383 t384 t385 t386 true _ A74.out).mono ?_); rintro e w119 ⟨rfl, hb⟩; refine ⟨_, rfl, ?_⟩; replace BK374 := bb (bk BK374) hb; replace BK375 := bb (bk BK375) hb; replace BK381 := bb (bk BK381) hb; replace BK382 := bb (bk BK382) hb; replace HB := hbb (hs_ HB) hb; clear hb) | ((with_reducible refine gate_dst (N := 12) rfl ?_); refine bE 12 #[.int .i64 0, .int .i64 0] 23 ?_; intro gb388 hg w120 hbox hb; have BK388 := Aside0.mk (hbox); have GE388 := gw hg (hs_ HB); have GW388 := GE388; have NB374_388 := nl hg (bk BK374); have NB388_374 := ng hg (bk BK374); have NB375_388 := nl hg (bk BK375); have NB388_375 := ng hg (bk BK375); have NB381_388 := nl hg (bk BK381); have NB388_381 := ng hg (bk BK381); have NB382_388 := nl hg (bk BK382); have NB388_382 := ng hg (bk BK382); replace BK374 := bb (bk BK374) hb; replace BK375 := bb (bk BK375) hb; replace BK381 := bb (bk BK381) hb; replace BK382 := bb (bk BK382) hb; replace HB := hbb (hs_ HB) hb; clear hb hbox hg) | ((with_reducible refine gate_dst (N := 13) rfl ?_); refine bE 13 #[.int .i64 0, .int .i64 0] 23 ?_; intro gb389 hg w121 hbox hb; have BK389 := Aside0.mk (hbox); have GE389 := gw hg (hs_ HB); have GW389 := GE389; have NB374_389 := nl hg (bk BK374); have NB389_374 := ng hg (bk BK374); have NB375_389 := nl hg (bk BK375); have NB389_375 := ng hg (bk BK375); have NB381_389 := nl hg (bk BK381); have NB389_381 := ng hg (bk BK381); have NB382_389 := nl hg (bk BK382); have NB389_382 := ng hg (bk BK382); have NB388_389 := nl hg (bk BK388); have NB389_388 := ng hg (bk BK388); replace BK374 := bb (bk BK374) hb; replace BK375 := bb (bk BK375) hb; replace BK381 := bb (bk BK381) hb; replace BK382 := bb (bk BK382) hb; replace BK388 := bb (bk BK388) hb; replace HB := hbb (hs_ HB) hb; clear hb hbox hg; have hnb122 := NB388_374.out; have hnc122 := NB374_388.out; have hnb123 := NB388_375.out; have hnc123 := NB375_388.out; have hnb124 := NB388_381.out; have hnc124 := NB381_388.out; have hnb125 := NB388_382.out; have hnc125 := NB382_388.out; have hnb126 := NB388_389.out; have hnc126 := NB389_388.out; obtain ⟨hcz127_0, hcz127_1, hfz127_0, hfz127_1⟩ := cz2 BK388; have hnb128 := NB389_374.out; have hnc128 := NB374_389.out; have hnb129 := NB389_375.out; have hnc129 := NB375_389.out; have hnb130 := NB389_381.out; have hnc130 := NB381_389.out; have hnb131 := NB389_382.out; have hnc131 := NB382_389.out; obtain ⟨hcz132_0, hcz132_1, hfz132_0, hfz132_1⟩ := cz2 BK389) | ((with_reducible refine gate_callee (f := 16) rfl ?_); refine gL 88 Try.func16 #[.int .i64 t366, .int .i64 t367, .int .i64 (wrap64 (t368 + 129600000))] ?_; (with_reducible refine (impl_TurnBy.calls kj5 t366 t367 (wrap64 (t368 + 129600000)) t390 t391 t392 t393 true _ A75.out).mono ?_); rintro e w133 ⟨rfl, hb⟩; refine ⟨_, rfl, ?_⟩; replace BK374 := bb (bk2 BK374 NB374_389 NB374_388) hb; replace BK375 := bb (bk2 BK375 NB375_389 NB375_388) hb; replace BK381 := bb (bk2 BK381 NB381_389 NB381_388) hb; replace BK382 := bb (bk2 BK382 NB382_389 NB382_388) hb; replace BK388 := bb (o := .cells #[.int .i64 t383, .int .i64 t384] 23 (0, 0)) (bkp BK388) hb; replace BK389 := bb (o := .cells #[.int .i64 t385, .int .i64 t386] 23 (0, 0)) (bkp BK389) hb; replace HB := hbb (hs_ HB) hb; clear hb) | ((with_reducible refine gate_dst (N := 15) rfl ?_); refine bE 15 #[.int .i64 0, .int .i64 0] 23 ?_; intro gb395 hg w134 hbox hb; have BK395 := Aside0.mk (hbox); have GE395 := gw hg (hs_ HB); have GW395 := GE395; have NB374_395 := nl hg (bk BK374); have NB395_374 := ng hg (bk BK374); have NB375_395 := nl hg (bk BK375); have NB395_375 := ng hg (bk BK375); have NB381_395 := nl hg (bk BK381); have NB395_381 := ng hg (bk BK381); have NB382_395 := nl hg (bk BK382); have NB395_382 := ng hg (bk BK382); have NB388_395 := nl hg (bk BK388); have NB395_388 := ng hg (bk BK388); have NB389_395 := nl hg (bk BK389); have NB395_389 := ng hg (bk BK389); replace BK374 := bb (bk BK374) hb; replace BK375 := bb (bk BK375) hb; replace BK381 := bb (bk BK381) hb; replace BK382 := bb (bk BK382) hb; replace BK388 := bb (bk BK388) hb; replace BK389 := bb (bk BK389) hb; replace HB := hbb (hs_ HB) hb; clear hb hbox hg) | ((with_reducible refine gate_dst (N := 16) rfl ?_); refine bE 16 #[.int .i64 0, .int .i64 0] 23 ?_; intro gb396 hg w135 hbox hb; have BK396 := Aside0.mk (hbox); have GE396 := gw hg (hs_ HB); have GW396 := GE396; have NB374_396 := nl hg (bk BK374); have NB396_374 := ng hg (bk BK374); have NB375_396 := nl hg (bk BK375); have NB396_375 := ng hg (bk BK375); have NB381_396 := nl hg (bk BK381); have NB396_381 := ng hg (bk BK381); have NB382_396 := nl hg (bk BK382); have NB396_382 := ng hg (bk BK382); have NB388_396 := nl hg (bk BK388); have NB396_388 := ng hg (bk BK388); have NB389_396 := nl hg (bk BK389); have NB396_389 := ng hg (bk BK389); have NB395_396 := nl hg (bk BK395); have NB396_395 := ng hg (bk BK395); replace BK374 := bb (bk BK374) hb; replace BK375 := bb (bk BK375) hb; replace BK381 := bb (bk BK381) hb; replace BK382 := bb (bk BK382) hb; replace BK388 := bb (bk BK388) hb; replace BK389 := bb (bk BK389) hb; replace BK395 := bb (bk BK395) hb; replace HB := hbb (hs_ HB) hb; clear hb hbox hg; have hnb136 := NB395_374.out; have hnc136 := NB374_395.out; have hnb137 := NB395_375.out; have hnc137 := NB375_395.out; have hnb138 := NB395_381.out; have hnc138 := NB381_395.out; have hnb139 := NB395_382.out; have hnc139 := NB382_395.out; have hnb140 := NB395_388.out; have hnc140 := NB388_395.out; have hnb141 := NB395_389.out; have hnc141 := NB389_395.out; have hnb142 := NB395_396.out; have hnc142 := NB396_395.out; obtain ⟨hcz143_0, hcz143_1, hfz143_0, hfz143_1⟩ := cz2 BK395; have hnb144 := NB396_374.out; have hnc144 := NB374_396.out; have hnb145 := NB396_375.out; have hnc145 := NB375_396.out; have hnb146 := NB396_381.out; have hnc146 := NB381_396.out; have hnb147 := NB396_382.out; have hnc147 := NB382_396.out; have hnb148 := NB396_388.out; have hnc148 := NB388_396.out; have hnb149 := NB396_389.out; have hnc149 := NB389_396.out; obtain ⟨hcz150_0, hcz150_1, hfz150_0, hfz150_1⟩ := cz2 BK396))
          have n0_ : Aside0 (((((w135.setCell ⟨gb395, 0, none⟩ (.int .i64 t390)).setCell ⟨gb395, 1, none⟩ (.int .i64 t391)).setCell ⟨gb396, 0, none⟩ (.int .i64 t392)).setCell ⟨gb396, 1, none⟩ (.int .i64 t393)).heap[gb374]? = some (.cells #[.int .i64 t369, .int .i64 t370] 23 (0, 0))) := ⟨bk2 BK374 NB374_396 NB374_395⟩
          have n1_ : Aside0 (((((w135.setCell ⟨gb395, 0, none⟩ (.int .i64 t390)).setCell ⟨gb395, 1, none⟩ (.int .i64 t391)).setCell ⟨gb396, 0, none⟩ (.int .i64 t392)).setCell ⟨gb396, 1, none⟩ (.int .i64 t393)).heap[gb375]? = some (.cells #[.int .i64 t371, .int .i64 t372] 23 (0, 0))) := ⟨bk2 BK375 NB375_396 NB375_395⟩
          have n2_ : Aside0 (((((w135.setCell ⟨gb395, 0, none⟩ (.int .i64 t390)).setCell ⟨gb395, 1, none⟩ (.int .i64 t391)).setCell ⟨gb396, 0, none⟩ (.int .i64 t392)).setCell ⟨gb396, 1, none⟩ (.int .i64 t393)).heap[gb381]? = some (.cells #[.int .i64 t376, .int .i64 t377] 23 (0, 0))) := ⟨bk2 BK381 NB381_396 NB381_395⟩
          have n3_ : Aside0 (((((w135.setCell ⟨gb395, 0, none⟩ (.int .i64 t390)).setCell ⟨gb395, 1, none⟩ (.int .i64 t391)).setCell ⟨gb396, 0, none⟩ (.int .i64 t392)).setCell ⟨gb396, 1, none⟩ (.int .i64 t393)).heap[gb382]? = some (.cells #[.int .i64 t378, .int .i64 t379] 23 (0, 0))) := ⟨bk2 BK382 NB382_396 NB382_395⟩
          have n4_ : Aside0 (((((w135.setCell ⟨gb395, 0, none⟩ (.int .i64 t390)).setCell ⟨gb395, 1, none⟩ (.int .i64 t391)).setCell ⟨gb396, 0, none⟩ (.int .i64 t392)).setCell ⟨gb396, 1, none⟩ (.int .i64 t393)).heap[gb388]? = some (.cells #[.int .i64 t383, .int .i64 t384] 23 (0, 0))) := ⟨bk2 BK388 NB388_396 NB388_395⟩
          have n5_ : Aside0 (((((w135.setCell ⟨gb395, 0, none⟩ (.int .i64 t390)).setCell ⟨gb395, 1, none⟩ (.int .i64 t391)).setCell ⟨gb396, 0, none⟩ (.int .i64 t392)).setCell ⟨gb396, 1, none⟩ (.int .i64 t393)).heap[gb389]? = some (.cells #[.int .i64 t385, .int .i64 t386] 23 (0, 0))) := ⟨bk2 BK389 NB389_396 NB389_395⟩
          have n6_ : Aside0 (((((w135.setCell ⟨gb395, 0, none⟩ (.int .i64 t390)).setCell ⟨gb395, 1, none⟩ (.int .i64 t391)).setCell ⟨gb396, 0, none⟩ (.int .i64 t392)).setCell ⟨gb396, 1, none⟩ (.int .i64 t393)).heap[gb395]? = some (.cells #[.int .i64 t390, .int .i64 t391] 23 (0, 0))) := ⟨bkp BK395⟩
          have n7_ : Aside0 (((((w135.setCell ⟨gb395, 0, none⟩ (.int .i64 t390)).setCell ⟨gb395, 1, none⟩ (.int .i64 t391)).setCell ⟨gb396, 0, none⟩ (.int .i64 t392)).setCell ⟨gb396, 1, none⟩ (.int .i64 t393)).heap[gb396]? = some (.cells #[.int .i64 t392, .int .i64 t393] 23 (0, 0))) := ⟨bkp BK396⟩
          have n8_ : Aside0 (Below w.heap.size w ((((w135.setCell ⟨gb395, 0, none⟩ (.int .i64 t390)).setCell ⟨gb395, 1, none⟩ (.int .i64 t391)).setCell ⟨gb396, 0, none⟩ (.int .i64 t392)).setCell ⟨gb396, 1, none⟩ (.int .i64 t393))) := ⟨hs_ HB⟩
          (try clear BK374)
          (try clear BK375)
          (try clear BK381)
          (try clear BK382)
          (try clear BK388)
          (try clear BK389)
          (try clear BK395)
          (try clear BK396)
          (try clear HB)
          generalize ((((w135.setCell ⟨gb395, 0, none⟩ (.int .i64 t390)).setCell ⟨gb395, 1, none⟩ (.int .i64 t391)).setCell ⟨gb396, 0, none⟩ (.int .i64 t392)).setCell ⟨gb396, 1, none⟩ (.int .i64 t393)) = w151 at n0_ n1_ n2_ n3_ n4_ n5_ n6_ n7_ n8_ ⊢
          have BK374 := n0_
          have BK375 := n1_
          have BK381 := n2_
          have BK382 := n3_
          have BK388 := n4_
          have BK389 := n5_
          have BK395 := n6_
          have BK396 := n7_
          have HB := n8_
          clear n0_ n1_ n2_ n3_ n4_ n5_ n6_ n7_ n8_
          replace BK374 := Aside0.mk (blk_drew BK374.out)
          replace BK375 := Aside0.mk (blk_drew BK375.out)
          replace BK381 := Aside0.mk (blk_drew BK381.out)
          replace BK382 := Aside0.mk (blk_drew BK382.out)
          replace BK388 := Aside0.mk (blk_drew BK388.out)
          replace BK389 := Aside0.mk (blk_drew BK389.out)
          replace BK395 := Aside0.mk (blk_drew BK395.out)
          replace BK396 := Aside0.mk (blk_drew BK396.out)
          replace HB := Aside0.mk (below_drew1 HB.out)
          refine start_ (n := 28) (S := fun w' => w'.cell? ⟨gb388, 0, none⟩ = some (.int .i64 t383) ∧ w'.cell? ⟨gb388, 1, none⟩ = some (.int .i64 t384) ∧ w'.cell? ⟨gb381, 0, none⟩ = some (.int .i64 t376) ∧ w'.cell? ⟨gb381, 1, none⟩ = some (.int .i64 t377) ∧ w'.cell? ⟨gb389, 0, none⟩ = some (.int .i64 t385) ∧ w'.cell? ⟨gb389, 1, none⟩ = some (.int .i64 t386) ∧ w'.cell? ⟨gb382, 0, none⟩ = some (.int .i64 t378) ∧ w'.cell? ⟨gb382, 1, none⟩ = some (.int .i64 t379) ∧ w'.cell? ⟨gb395, 0, none⟩ = some (.int .i64 t390) ∧ w'.cell? ⟨gb395, 1, none⟩ = some (.int .i64 t391)) (ds := []) #[false, false, false, false, false, false, false, false, false, false, false, false, false, false, false, false, false, false, false, false, false, false, false, false, false, false, false, false] (by kernel_rfl) rfl rfl ⟨(blk_cell BK388.out 0).trans rfl, (blk_cell BK388.out 1).trans rfl, (blk_cell BK381.out 0).trans rfl, (blk_cell BK381.out 1).trans rfl, (blk_cell BK389.out 0).trans rfl, (blk_cell BK389.out 1).trans rfl, (blk_cell BK382.out 0).trans rfl, (blk_cell BK382.out 1).trans rfl, (blk_cell BK395.out 0).trans rfl, (blk_cell BK395.out 1).trans rfl⟩ (fun hHeld => ?_); refine with_tabW laws_FnTurnNeg.tab10 laws_FnTurnNeg.bits10 (fun HT_ HW_ => ?_)
          generalize w151.drew = w152 at BK374 BK375 BK381 BK382 BK388 BK389 BK395 BK396 HB hHeld ⊢
          refine pure_ (i := 0) (N := some 92) (v := ?_) (a' := ?_) #[true, false, false, false, false, false, false, false, false, false, false, false, false, false, false, false, false, false, false, false, false, false, false, false, false, false, false, false] rfl rfl (any_of HT_.out (by kernel_rfl)) (fun _ _ _ h => h) (Or.inl ⟨by rfl, ?_⟩) ?_ ?_
          rotate_left
          ·intro w'
           go_simp
           with_reducible rfl
          rotate_left
          ·simp only [Act.put, List.setIfInBounds_toArray, List.set_cons_zero, List.set_cons_succ, i64_w, i32_w]
           rfl
          refine pure_ (i := 1) (N := some 93) (v := ?_) (a' := ?_) #[true, true, false, false, false, false, false, false, false, false, false, false, false, false, false, false, false, false, false, false, false, false, false, false, false, false, false, false] rfl rfl (any_of HT_.out (by kernel_rfl)) (fun _ _ _ h => h) (Or.inl ⟨by rfl, ?_⟩) ?_ ?_
          rotate_left
          ·intro w'
           go_simp
           with_reducible rfl
          rotate_left
          ·simp only [Act.put, List.setIfInBounds_toArray, List.set_cons_zero, List.set_cons_succ, i64_w, i32_w]
           rfl
          refine take_ (i := 2) (N := some 94) (v := ?_) (a' := ?_) #[true, true, true, false, false, false, false, false, false, false, false, false, false, false, false, false, false, false, false, false, false, false, false, false, false, false, false, false] rfl rfl (take_ofW HT_.out HW_.out (by kernel_rfl)) (fun _ _ _ h => h) (Or.inl ⟨by rfl, ?_⟩) hHeld ?_ ?_
          rotate_left
          ·rintro w' ⟨s0, s1, s2, s3, s4, s5, s6, s7, s8, s9⟩
           go_simp
           with_reducible rfl
          rotate_left
          ·simp only [Act.put, List.setIfInBounds_toArray, List.set_cons_zero, List.set_cons_succ, i64_w, i32_w]
           rfl
          refine take_ (i := 3) (N := some 95) (v := ?_) (a' := ?_) #[true, true, true, true, false, false, false, false, false, false, false, false, false, false, false, false, false, false, false, false, false, false, false, false, false, false, false, false] rfl rfl (take_ofW HT_.out HW_.out (by kernel_rfl)) (fun _ _ _ h => h) (Or.inl ⟨by rfl, ?_⟩) hHeld ?_ ?_
          rotate_left
          ·rintro w' ⟨s0, s1, s2, s3, s4, s5, s6, s7, s8, s9⟩
           go_simp
           with_reducible rfl
          rotate_left
          ·simp only [Act.put, List.setIfInBounds_toArray, List.set_cons_zero, List.set_cons_succ, i64_w, i32_w]
           rfl
          refine one_ (i := 4) (N := some 96) #[true, true, true, true, true, false, false, false, false, false, false, false, false, false, false, false, false, false, false, false, false, false, false, false, false, false, false, false] rfl rfl (one_of HT_.out (by kernel_rfl)) (by decide) (fun K hK => ?_)
          refine gS Try.func27 #[.agg #[.int .i64 t376, .int .i64 t377]] ?_
          with_reducible refine (impl_SpanNeg.calls t376 t377 t397 t398 _ A77.out).mono ?_
          rintro e w153 ⟨rfl, hb⟩
          refine ⟨_, rfl, ?_⟩
          replace BK374 := bb (bk BK374) hb
          replace BK375 := bb (bk BK375) hb
          replace BK381 := bb (bk BK381) hb
          replace BK382 := bb (bk BK382) hb
          replace BK388 := bb (bk BK388) hb
          replace BK389 := bb (bk BK389) hb
          replace BK395 := bb (bk BK395) hb
          replace BK396 := bb (bk BK396) hb
          replace HB := hbb (hs_ HB) hb
          clear hb
          refine hK.out _ _ ⟨(blk_cell BK388.out 0).trans rfl, (blk_cell BK388.out 1).trans rfl, (blk_cell BK381.out 0).trans rfl, (blk_cell BK381.out 1).trans rfl, (blk_cell BK389.out 0).trans rfl, (blk_cell BK389.out 1).trans rfl, (blk_cell BK382.out 0).trans rfl, (blk_cell BK382.out 1).trans rfl, (blk_cell BK395.out 0).trans rfl, (blk_cell BK395.out 1).trans rfl⟩ (fun hHeld => ?_)
          clear hK K
          refine norm_ (a' := ?_) ?_ ?_
          rotate_left
          ·show Act.put _ (some 96) _ = _
           simp only [Act.put, List.setIfInBounds_toArray, List.set_cons_zero, List.set_cons_succ, i64_w, i32_w]
           rfl
          refine pure_ (i := 5) (N := some 97) (v := ?_) (a' := ?_) #[true, true, true, true, true, true, false, false, false, false, false, false, false, false, false, false, false, false, false, false, false, false, false, false, false, false, false, false] rfl rfl (any_of HT_.out (by kernel_rfl)) (fun _ _ _ h => h) (Or.inl ⟨by rfl, ?_⟩) ?_ ?_
          rotate_left
          ·intro w'
           go_simp
           with_reducible rfl
          rotate_left
          ·simp only [Act.put, List.setIfInBounds_toArray, List.set_cons_zero, List.set_cons_succ, i64_w, i32_w]
           rfl
          refine pure_ (i := 6) (N := some 98) (v := ?_) (a' := ?_) #[true, true, true, true, true, true, true, false, false, false, false, false, false, false, false, false, false, false, false, false, false, false, false, false, false, false, false, false] rfl rfl (any_of HT_.out (by kernel_rfl)) (fun _ _ _ h => h) (Or.inl ⟨by rfl, ?_⟩) ?_ ?_
          rotate_left
          ·intro w'
           go_simp
           with_reducible rfl
          rotate_left
          ·simp only [Act.put, List.setIfInBounds_toArray, List.set_cons_zero, List.set_cons_succ, i64_w, i32_w]
           rfl
          refine pure_ (i := 7) (N := some 99) (v := ?_) (a' := ?_) #[true, true, true, true, true, true, true, true, false, false, false, false, false, false, false, false, false, false, false, false, false, false, false, false, false, false, false, false] rfl rfl (any_of HT_.out (by kernel_rfl)) (fun _ _ _ h => h) (Or.inl ⟨by rfl, ?_⟩) ?_ ?_
          rotate_left
          ·intro w'
           go_simp
           with_reducible rfl
          rotate_left
          ·simp only [Act.put, List.setIfInBounds_toArray, List.set_cons_zero, List.set_cons_succ, i64_w, i32_w]
           rfl
          refine take_ (i := 8) (N := some 100) (v := ?_) (a' := ?_) #[true, true, true, true, true, true, true, true, true, false, false, false, false, false, false, false, false, false, false, false, false, false, false, false, false, false, false, false] rfl rfl (take_ofW HT_.out HW_.out (by kernel_rfl)) (fun _ _ _ h => h) (Or.inl ⟨by rfl, ?_⟩) hHeld ?_ ?_
          rotate_left
          ·rintro w' ⟨s0, s1, s2, s3, s4, s5, s6, s7, s8, s9⟩
           go_simp
           with_reducible rfl
          rotate_left
          ·simp only [Act.put, List.setIfInBounds_toArray, List.set_cons_zero, List.set_cons_succ, i64_w, i32_w]
           rfl
          refine take_ (i := 9) (N := some 101) (v := ?_) (a' := ?_) #[true, true, true, true, true, true, true, true, true, true, false, false, false, false, false, false, false, false, false, false, false, false, false, false, false, false, false, false] rfl rfl (take_ofW HT_.out HW_.out (by kernel_rfl)) (fun _ _ _ h => h) (Or.inl ⟨by rfl, ?_⟩) hHeld ?_ ?_
          rotate_left
          ·rintro w' ⟨s0, s1, s2, s3, s4, s5, s6, s7, s8, s9⟩
           go_simp
           with_reducible rfl
          rotate_left
          ·simp only [Act.put, List.setIfInBounds_toArray, List.set_cons_zero, List.set_cons_succ, i64_w, i32_w]
           rfl
          refine one_ (i := 10) (N := some 102) #[true, true, true, true, true, true, true, true, true, true, true, false, false, false, false, false, false, false, false, false, false, false, false, false, false, false, false, false] rfl rfl (one_of HT_.out (by kernel_rfl)) (by decide) (fun K hK => ?_)
          refine gS Try.func27 #[.agg #[.int .i64 t378, .int .i64 t379]] ?_
          with_reducible refine (impl_SpanNeg.calls t378 t379 t399 t400 _ A79.out).mono ?_
          rintro e w154 ⟨rfl, hb⟩
          refine ⟨_, rfl, ?_⟩
          replace BK374 := bb (bk BK374) hb
          replace BK375 := bb (bk BK375) hb
          replace BK381 := bb (bk BK381) hb
          replace BK382 := bb (bk BK382) hb
          replace BK388 := bb (bk BK388) hb
          replace BK389 := bb (bk BK389) hb
          replace BK395 := bb (bk BK395) hb
          replace BK396 := bb (bk BK396) hb
          replace HB := hbb (hs_ HB) hb
          clear hb
          refine hK.out _ _ ⟨(blk_cell BK388.out 0).trans rfl, (blk_cell BK388.out 1).trans rfl, (blk_cell BK381.out 0).trans rfl, (blk_cell BK381.out 1).trans rfl, (blk_cell BK389.out 0).trans rfl, (blk_cell BK389.out 1).trans rfl, (blk_cell BK382.out 0).trans rfl, (blk_cell BK382.out 1).trans rfl, (blk_cell BK395.out 0).trans rfl, (blk_cell BK395.out 1).trans rfl⟩ (fun hHeld => ?_)
          clear hK K
          refine norm_ (a' := ?_) ?_ ?_
          rotate_left
          ·show Act.put _ (some 102) _ = _
           simp only [Act.put, List.setIfInBounds_toArray, List.set_cons_zero, List.set_cons_succ, i64_w, i32_w]
           rfl
          refine pure_ (i := 11) (N := some 103) (v := ?_) (a' := ?_) #[true, true, true, true, true, true, true, true, true, true, true, true, false, false, false, false, false, false, false, false, false, false, false, false, false, false, false, false] rfl rfl (any_of HT_.out (by kernel_rfl)) (fun _ _ _ h => h) (Or.inl ⟨by rfl, ?_⟩) ?_ ?_
          rotate_left
          ·intro w'
           go_simp
           with_reducible rfl
          rotate_left
          ·simp only [Act.put, List.setIfInBounds_toArray, List.set_cons_zero, List.set_cons_succ, i64_w, i32_w]
           rfl
          refine pure_ (i := 12) (N := some 104) (v := ?_) (a' := ?_) #[true, true, true, true, true, true, true, true, true, true, true, true, true, false, false, false, false, false, false, false, false, false, false, false, false, false, false, false] rfl rfl (any_of HT_.out (by kernel_rfl)) (fun _ _ _ h => h) (Or.inl ⟨by rfl, ?_⟩) ?_ ?_
          rotate_left
          ·intro w'
           go_simp
           with_reducible rfl
          rotate_left
          ·simp only [Act.put, List.setIfInBounds_toArray, List.set_cons_zero, List.set_cons_succ, i64_w, i32_w]
           rfl
          refine pure_ (i := 13) (N := some 105) (v := ?_) (a' := ?_) #[true, true, true, true, true, true, true, true, true, true, true, true, true, true, false, false, false, false, false, false, false, false, false, false, false, false, false, false] rfl rfl (any_of HT_.out (by kernel_rfl)) (fun _ _ _ h => h) (Or.inl ⟨by rfl, ?_⟩) ?_ ?_
          rotate_left
          ·intro w'
           go_simp
           with_reducible rfl
          rotate_left
          ·simp only [Act.put, List.setIfInBounds_toArray, List.set_cons_zero, List.set_cons_succ, i64_w, i32_w]
           rfl
          refine pure_ (i := 14) (N := some 106) (v := ?_) (a' := ?_) #[true, true, true, true, true, true, true, true, true, true, true, true, true, true, true, false, false, false, false, false, false, false, false, false, false, false, false, false] rfl rfl (any_of HT_.out (by kernel_rfl)) (fun _ _ _ h => h) (Or.inl ⟨by rfl, ?_⟩) ?_ ?_
          rotate_left
          ·intro w'
           go_simp
           with_reducible rfl
          rotate_left
          ·simp only [Act.put, List.setIfInBounds_toArray, List.set_cons_zero, List.set_cons_succ, i64_w, i32_w]
           rfl
          refine pure_ (i := 15) (N := some 107) (v := ?_) (a' := ?_) #[true, true, true, true, true, true, true, true, true, true, true, true, true, true, true, true, false, false, false, false, false, false, false, false, false, false, false, false] rfl rfl (any_of HT_.out (by kernel_rfl)) (fun _ _ _ h => h) (Or.inl ⟨by rfl, ?_⟩) ?_ ?_
          rotate_left
          ·intro w'
           go_simp
           with_reducible rfl
          rotate_left
          ·simp only [Act.put, List.setIfInBounds_toArray, List.set_cons_zero, List.set_cons_succ, i64_w, i32_w]
           rfl
          refine pure_ (i := 16) (N := some 108) (v := ?_) (a' := ?_) #[true, true, true, true, true, true, true, true, true, true, true, true, true, true, true, true, true, false, false, false, false, false, false, false, false, false, false, false] rfl rfl (any_of HT_.out (by kernel_rfl)) (fun _ _ _ h => h) (Or.inl ⟨by rfl, ?_⟩) ?_ ?_
          rotate_left
          ·intro w'
           go_simp
           with_reducible rfl
          rotate_left
          ·simp only [Act.put, List.setIfInBounds_toArray, List.set_cons_zero, List.set_cons_succ, i64_w, i32_w]
           rfl
          refine take_ (i := 17) (N := some 109) (v := ?_) (a' := ?_) #[true, true, true, true, true, true, true, true, true, true, true, true, true, true, true, true, true, true, false, false, false, false, false, false, false, false, false, false] rfl rfl (take_ofW HT_.out HW_.out (by kernel_rfl)) (fun _ _ _ h => h) (Or.inl ⟨by rfl, ?_⟩) hHeld ?_ ?_
          rotate_left
          ·rintro w' ⟨s0, s1, s2, s3, s4, s5, s6, s7, s8, s9⟩
           go_simp
           with_reducible rfl
          rotate_left
          ·simp only [Act.put, List.setIfInBounds_toArray, List.set_cons_zero, List.set_cons_succ, i64_w, i32_w]
           rfl
          refine take_ (i := 18) (N := some 110) (v := ?_) (a' := ?_) #[true, true, true, true, true, true, true, true, true, true, true, true, true, true, true, true, true, true, true, false, false, false, false, false, false, false, false, false] rfl rfl (take_ofW HT_.out HW_.out (by kernel_rfl)) (fun _ _ _ h => h) (Or.inl ⟨by rfl, ?_⟩) hHeld ?_ ?_
          rotate_left
          ·rintro w' ⟨s0, s1, s2, s3, s4, s5, s6, s7, s8, s9⟩
           go_simp
           with_reducible rfl
          rotate_left
          ·simp only [Act.put, List.setIfInBounds_toArray, List.set_cons_zero, List.set_cons_succ, i64_w, i32_w]
           rfl
          refine pure_ (i := 19) (N := some 111) (v := ?_) (a' := ?_) #[true, true, true, true, true, true, true, true, true, true, true, true, true, true, true, true, true, true, true, true, false, false, false, false, false, false, false, false] rfl rfl (any_of HT_.out (by kernel_rfl)) (fun _ _ _ h => h) (Or.inl ⟨by rfl, ?_⟩) ?_ ?_
          rotate_left
          ·intro w'
           go_simp
           with_reducible rfl
          rotate_left
          ·simp only [Act.put, List.setIfInBounds_toArray, List.set_cons_zero, List.set_cons_succ, i64_w, i32_w]
           rfl
          refine pure_ (i := 20) (N := some 112) (v := ?_) (a' := ?_) #[true, true, true, true, true, true, true, true, true, true, true, true, true, true, true, true, true, true, true, true, true, false, false, false, false, false, false, false] rfl rfl (any_of HT_.out (by kernel_rfl)) (fun _ _ _ h => h) (Or.inl ⟨by rfl, ?_⟩) ?_ ?_
          rotate_left
          ·intro w'
           go_simp
           with_reducible rfl
          rotate_left
          ·simp only [Act.put, List.setIfInBounds_toArray, List.set_cons_zero, List.set_cons_succ, i64_w, i32_w]
           rfl
          refine pure_ (i := 21) (N := some 113) (v := undef) (a' := ?_) #[true, true, true, true, true, true, true, true, true, true, true, true, true, true, true, true, true, true, true, true, true, true, false, false, false, false, false, false] rfl rfl (any_of HT_.out (by kernel_rfl)) (fun _ _ _ h => h) (Or.inr ⟨by rfl, rfl⟩) ?_ ?_
          rotate_left
          ·simp only [Act.put, List.setIfInBounds_toArray, List.set_cons_zero, List.set_cons_succ, i64_w, i32_w]
           rfl
          refine pure_ (i := 22) (N := some 114) (v := undef) (a' := ?_) #[true, true, true, true, true, true, true, true, true, true, true, true, true, true, true, true, true, true, true, true, true, true, true, false, false, false, false, false] rfl rfl (any_of HT_.out (by kernel_rfl)) (fun _ _ _ h => h) (Or.inr ⟨by rfl, rfl⟩) ?_ ?_
          rotate_left
          ·simp only [Act.put, List.setIfInBounds_toArray, List.set_cons_zero, List.set_cons_succ, i64_w, i32_w]
           rfl
          refine pure_ (i := 23) (N := some 115) (v := undef) (a' := ?_) #[true, true, true, true, true, true, true, true, true, true, true, true, true, true, true, true, true, true, true, true, true, true, true, true, false, false, false, false] rfl rfl (any_of HT_.out (by kernel_rfl)) (fun _ _ _ h => h) (Or.inr ⟨by rfl, rfl⟩) ?_ ?_
          rotate_left
          ·simp only [Act.put, List.setIfInBounds_toArray, List.set_cons_zero, List.set_cons_succ, i64_w, i32_w]
           rfl
          refine pure_ (i := 24) (N := some 116) (v := ?_) (a' := ?_) #[true, true, true, true, true, true, true, true, true, true, true, true, true, true, true, true, true, true, true, true, true, true, true, true, true, false, false, false] rfl rfl (any_of HT_.out (by kernel_rfl)) (fun _ _ _ h => h) (Or.inl ⟨by rfl, ?_⟩) ?_ ?_
          rotate_left
          ·intro w'
           go_simp
           with_reducible rfl
          rotate_left
          ·simp only [Act.put, List.setIfInBounds_toArray, List.set_cons_zero, List.set_cons_succ, i64_w, i32_w]
           rfl
          refine pure_ (i := 25) (N := some 117) (v := ?_) (a' := ?_) #[true, true, true, true, true, true, true, true, true, true, true, true, true, true, true, true, true, true, true, true, true, true, true, true, true, true, false, false] rfl rfl (any_of HT_.out (by kernel_rfl)) (fun _ _ _ h => h) (Or.inl ⟨by rfl, ?_⟩) ?_ ?_
          rotate_left
          ·intro w'
           go_simp
           with_reducible rfl
          rotate_left
          ·simp only [Act.put, List.setIfInBounds_toArray, List.set_cons_zero, List.set_cons_succ, i64_w, i32_w]
           rfl
          refine pure_ (i := 26) (N := some 118) (v := ?_) (a' := ?_) #[true, true, true, true, true, true, true, true, true, true, true, true, true, true, true, true, true, true, true, true, true, true, true, true, true, true, true, false] rfl rfl (any_of HT_.out (by kernel_rfl)) (fun _ _ _ h => h) (Or.inl ⟨by rfl, ?_⟩) ?_ ?_
          rotate_left
          ·intro w'
           go_simp
           with_reducible rfl
          rotate_left
          ·simp only [Act.put, List.setIfInBounds_toArray, List.set_cons_zero, List.set_cons_succ, i64_w, i32_w]
           rfl
          refine pure_ (i := 27) (N := some 2) (v := ?_) (a' := ?_) #[true, true, true, true, true, true, true, true, true, true, true, true, true, true, true, true, true, true, true, true, true, true, true, true, true, true, true, true] rfl rfl (any_of HT_.out (by kernel_rfl)) (fun _ _ _ h => h) (Or.inl ⟨by rfl, ?_⟩) ?_ ?_
          rotate_left
          ·intro w'
           go_simp
           with_reducible rfl
          rotate_left
          ·simp only [Act.put, List.setIfInBounds_toArray, List.set_cons_zero, List.set_cons_succ, i64_w, i32_w]
           rfl
          refine done_ (done_of HT_.out (by kernel_rfl)) ?_
          try go_wp2
          go_ret
          exact ⟨by first | rfl | (simp [errW_none, errW_some] <;> rfl) | (simp [*, errW_none, errW_some] <;> rfl), hs_ HB⟩
        ·replace c81 := Bool.eq_false_iff.mpr c81
         subst c81
         have H1 : (some true) = some r := by rw [if_neg (show ¬ (false = true) by decide)] at H; exact H
         clear H
         have H := H1
         clear H1
         obtain rfl := Option.some.inj H
         try go_wp2_with (first | ((with_reducible refine gate_callee (f := 16) rfl ?_); refine gL 79 Try.func16 #[.int .i64 (wrap64 (-t366)), .int .i64 (wrap64 (-t367)), .int .i64 t368] ?_; (with_reducible refine (impl_TurnBy.calls kj5 (wrap64 (-t366)) (wrap64 (-t367)) t368 t383 t384 t385 t386 true _ A74.out).mono ?_); rintro e w155 ⟨rfl, hb⟩; refine ⟨_, rfl, ?_⟩; replace BK374 := bb (bk BK374) hb; replace BK375 := bb (bk BK375) hb; replace BK381 := bb (bk BK381) hb; replace BK382 := bb (bk BK382) hb; replace HB := hbb (hs_ HB) hb; clear hb) | ((with_reducible refine gate_dst (N := 12) rfl ?_); refine bE 12 #[.int .i64 0, .int .i64 0] 23 ?_; intro gb388 hg w156 hbox hb; have BK388 := Aside0.mk (hbox); have GE388 := gw hg (hs_ HB); have GW388 := GE388; have NB374_388 := nl hg (bk BK374); have NB388_374 := ng hg (bk BK374); have NB375_388 := nl hg (bk BK375); have NB388_375 := ng hg (bk BK375); have NB381_388 := nl hg (bk BK381); have NB388_381 := ng hg (bk BK381); have NB382_388 := nl hg (bk BK382); have NB388_382 := ng hg (bk BK382); replace BK374 := bb (bk BK374) hb; replace BK375 := bb (bk BK375) hb; replace BK381 := bb (bk BK381) hb; replace BK382 := bb (bk BK382) hb; replace HB := hbb (hs_ HB) hb; clear hb hbox hg) | ((with_reducible refine gate_dst (N := 13) rfl ?_); refine bE 13 #[.int .i64 0, .int .i64 0] 23 ?_; intro gb389 hg w157 hbox hb; have BK389 := Aside0.mk (hbox); have GE389 := gw hg (hs_ HB); have GW389 := GE389; have NB374_389 := nl hg (bk BK374); have NB389_374 := ng hg (bk BK374); have NB375_389 := nl hg (bk BK375); have NB389_375 := ng hg (bk BK375); have NB381_389 := nl hg (bk BK381); have NB389_381 := ng hg (bk BK381); have NB382_389 := nl hg (bk BK382); have NB389_382 := ng hg (bk BK382); have NB388_389 := nl hg (bk BK388); have NB389_388 := ng hg (bk BK388); replace BK374 := bb (bk BK374) hb; replace BK375 := bb (bk BK375) hb; replace BK381 := bb (bk BK381) hb; replace BK382 := bb (bk BK382) hb; replace BK388 := bb (bk BK388) hb; replace HB := hbb (hs_ HB) hb; clear hb hbox hg; have hnb158 := NB388_374.out; have hnc158 := NB374_388.out; have hnb159 := NB388_375.out; have hnc159 := NB375_388.out; have hnb160 := NB388_381.out; have hnc160 := NB381_388.out; have hnb161 := NB388_382.out; have hnc161 := NB382_388.out; have hnb162 := NB388_389.out; have hnc162 := NB389_388.out; obtain ⟨hcz163_0, hcz163_1, hfz163_0, hfz163_1⟩ := cz2 BK388; have hnb164 := NB389_374.out; have hnc164 := NB374_389.out; have hnb165 := NB389_375.out; have hnc165 := NB375_389.out; have hnb166 := NB389_381.out; have hnc166 := NB381_389.out; have hnb167 := NB389_382.out; have hnc167 := NB382_389.out; obtain ⟨hcz168_0, hcz168_1, hfz168_0, hfz168_1⟩ := cz2 BK389) | ((with_reducible refine gate_callee (f := 16) rfl ?_); refine gL 88 Try.func16 #[.int .i64 t366, .int .i64 t367, .int .i64 (wrap64 (t368 + 129600000))] ?_; (with_reducible refine (impl_TurnBy.calls kj5 t366 t367 (wrap64 (t368 + 129600000)) t390 t391 t392 t393 false _ A75.out).mono ?_); rintro e w169 ⟨rfl, hb⟩; refine ⟨_, rfl, ?_⟩; replace BK374 := bb (bk2 BK374 NB374_389 NB374_388) hb; replace BK375 := bb (bk2 BK375 NB375_389 NB375_388) hb; replace BK381 := bb (bk2 BK381 NB381_389 NB381_388) hb; replace BK382 := bb (bk2 BK382 NB382_389 NB382_388) hb; replace BK388 := bb (o := .cells #[.int .i64 t383, .int .i64 t384] 23 (0, 0)) (bkp BK388) hb; replace BK389 := bb (o := .cells #[.int .i64 t385, .int .i64 t386] 23 (0, 0)) (bkp BK389) hb; replace HB := hbb (hs_ HB) hb; clear hb) | ((with_reducible refine gate_dst (N := 15) rfl ?_); refine bE 15 #[.int .i64 0, .int .i64 0] 23 ?_; intro gb395 hg w170 hbox hb; have BK395 := Aside0.mk (hbox); have GE395 := gw hg (hs_ HB); have GW395 := GE395; have NB374_395 := nl hg (bk BK374); have NB395_374 := ng hg (bk BK374); have NB375_395 := nl hg (bk BK375); have NB395_375 := ng hg (bk BK375); have NB381_395 := nl hg (bk BK381); have NB395_381 := ng hg (bk BK381); have NB382_395 := nl hg (bk BK382); have NB395_382 := ng hg (bk BK382); have NB388_395 := nl hg (bk BK388); have NB395_388 := ng hg (bk BK388); have NB389_395 := nl hg (bk BK389); have NB395_389 := ng hg (bk BK389); replace BK374 := bb (bk BK374) hb; replace BK375 := bb (bk BK375) hb; replace BK381 := bb (bk BK381) hb; replace BK382 := bb (bk BK382) hb; replace BK388 := bb (bk BK388) hb; replace BK389 := bb (bk BK389) hb; replace HB := hbb (hs_ HB) hb; clear hb hbox hg) | ((with_reducible refine gate_dst (N := 16) rfl ?_); refine bE 16 #[.int .i64 0, .int .i64 0] 23 ?_; intro gb396 hg w171 hbox hb; have BK396 := Aside0.mk (hbox); have GE396 := gw hg (hs_ HB); have GW396 := GE396; have NB374_396 := nl hg (bk BK374); have NB396_374 := ng hg (bk BK374); have NB375_396 := nl hg (bk BK375); have NB396_375 := ng hg (bk BK375); have NB381_396 := nl hg (bk BK381); have NB396_381 := ng hg (bk BK381); have NB382_396 := nl hg (bk BK382); have NB396_382 := ng hg (bk BK382); have NB388_396 := nl hg (bk BK388); have NB396_388 := ng hg (bk BK388); have NB389_396 := nl hg (bk BK389); have NB396_389 := ng hg (bk BK389); have NB395_396 := nl hg (bk BK395); have NB396_395 := ng hg (bk BK395); replace BK374 := bb (bk BK374) hb; replace BK375 := bb (bk BK375) hb; replace BK381 := bb (bk BK381) hb; replace BK382 := bb (bk BK382) hb; replace BK388 := bb (bk BK388) hb; replace BK389 := bb (bk BK389) hb; replace BK395 := bb (bk BK395) hb; replace HB := hbb (hs_ HB) hb; clear hb hbox hg; have hnb172 := NB395_374.out; have hnc172 := NB374_395.out; have hnb173 := NB395_375.out; have hnc173 := NB375_395.out; have hnb174 := NB395_381.out; have hnc174 := NB381_395.out; have hnb175 := NB395_382.out; have hnc175 := NB382_395.out; have hnb176 := NB395_388.out; have hnc176 := NB388_395.out; have hnb177 := NB395_389.out; have hnc177 := NB389_395.out; have hnb178 := NB395_396.out; have hnc178 := NB396_395.out; obtain ⟨hcz179_0, hcz179_1, hfz179_0, hfz179_1⟩ := cz2 BK395; have hnb180 := NB396_374.out; have hnc180 := NB374_396.out; have hnb181 := NB396_375.out; have hnc181 := NB375_396.out; have hnb182 := NB396_381.out; have hnc182 := NB381_396.out; have hnb183 := NB396_382.out; have hnc183 := NB382_396.out; have hnb184 := NB396_388.out; have hnc184 := NB388_396.out; have hnb185 := NB396_389.out; have hnc185 := NB389_396.out; obtain ⟨hcz186_0, hcz186_1, hfz186_0, hfz186_1⟩ := cz2 BK396))
         have n0_ : Aside0 (((((w171.setCell ⟨gb395, 0, none⟩ (.int .i64 t390)).setCell ⟨gb395, 1, none⟩ (.int .i64 t391)).setCell ⟨gb396, 0, none⟩ (.int .i64 t392)).setCell ⟨gb396, 1, none⟩ (.int .i64 t393)).heap[gb374]? = some (.cells #[.int .i64 t369, .int .i64 t370] 23 (0, 0))) := ⟨bk2 BK374 NB374_396 NB374_395⟩
         have n1_ : Aside0 (((((w171.setCell ⟨gb395, 0, none⟩ (.int .i64 t390)).setCell ⟨gb395, 1, none⟩ (.int .i64 t391)).setCell ⟨gb396, 0, none⟩ (.int .i64 t392)).setCell ⟨gb396, 1, none⟩ (.int .i64 t393)).heap[gb375]? = some (.cells #[.int .i64 t371, .int .i64 t372] 23 (0, 0))) := ⟨bk2 BK375 NB375_396 NB375_395⟩
         have n2_ : Aside0 (((((w171.setCell ⟨gb395, 0, none⟩ (.int .i64 t390)).setCell ⟨gb395, 1, none⟩ (.int .i64 t391)).setCell ⟨gb396, 0, none⟩ (.int .i64 t392)).setCell ⟨gb396, 1, none⟩ (.int .i64 t393)).heap[gb381]? = some (.cells #[.int .i64 t376, .int .i64 t377] 23 (0, 0))) := ⟨bk2 BK381 NB381_396 NB381_395⟩
         have n3_ : Aside0 (((((w171.setCell ⟨gb395, 0, none⟩ (.int .i64 t390)).setCell ⟨gb395, 1, none⟩ (.int .i64 t391)).setCell ⟨gb396, 0, none⟩ (.int .i64 t392)).setCell ⟨gb396, 1, none⟩ (.int .i64 t393)).heap[gb382]? = some (.cells #[.int .i64 t378, .int .i64 t379] 23 (0, 0))) := ⟨bk2 BK382 NB382_396 NB382_395⟩
         have n4_ : Aside0 (((((w171.setCell ⟨gb395, 0, none⟩ (.int .i64 t390)).setCell ⟨gb395, 1, none⟩ (.int .i64 t391)).setCell ⟨gb396, 0, none⟩ (.int .i64 t392)).setCell ⟨gb396, 1, none⟩ (.int .i64 t393)).heap[gb388]? = some (.cells #[.int .i64 t383, .int .i64 t384] 23 (0, 0))) := ⟨bk2 BK388 NB388_396 NB388_395⟩
         have n5_ : Aside0 (((((w171.setCell ⟨gb395, 0, none⟩ (.int .i64 t390)).setCell ⟨gb395, 1, none⟩ (.int .i64 t391)).setCell ⟨gb396, 0, none⟩ (.int .i64 t392)).setCell ⟨gb396, 1, none⟩ (.int .i64 t393)).heap[gb389]? = some (.cells #[.int .i64 t385, .int .i64 t386] 23 (0, 0))) := ⟨bk2 BK389 NB389_396 NB389_395⟩
         have n6_ : Aside0 (((((w171.setCell ⟨gb395, 0, none⟩ (.int .i64 t390)).setCell ⟨gb395, 1, none⟩ (.int .i64 t391)).setCell ⟨gb396, 0, none⟩ (.int .i64 t392)).setCell ⟨gb396, 1, none⟩ (.int .i64 t393)).heap[gb395]? = some (.cells #[.int .i64 t390, .int .i64 t391] 23 (0, 0))) := ⟨bkp BK395⟩
         have n7_ : Aside0 (((((w171.setCell ⟨gb395, 0, none⟩ (.int .i64 t390)).setCell ⟨gb395, 1, none⟩ (.int .i64 t391)).setCell ⟨gb396, 0, none⟩ (.int .i64 t392)).setCell ⟨gb396, 1, none⟩ (.int .i64 t393)).heap[gb396]? = some (.cells #[.int .i64 t392, .int .i64 t393] 23 (0, 0))) := ⟨bkp BK396⟩
         have n8_ : Aside0 (Below w.heap.size w ((((w171.setCell ⟨gb395, 0, none⟩ (.int .i64 t390)).setCell ⟨gb395, 1, none⟩ (.int .i64 t391)).setCell ⟨gb396, 0, none⟩ (.int .i64 t392)).setCell ⟨gb396, 1, none⟩ (.int .i64 t393))) := ⟨hs_ HB⟩
         (try clear BK374)
         (try clear BK375)
         (try clear BK381)
         (try clear BK382)
         (try clear BK388)
         (try clear BK389)
         (try clear BK395)
         (try clear BK396)
         (try clear HB)
         generalize ((((w171.setCell ⟨gb395, 0, none⟩ (.int .i64 t390)).setCell ⟨gb395, 1, none⟩ (.int .i64 t391)).setCell ⟨gb396, 0, none⟩ (.int .i64 t392)).setCell ⟨gb396, 1, none⟩ (.int .i64 t393)) = w187 at n0_ n1_ n2_ n3_ n4_ n5_ n6_ n7_ n8_ ⊢
         have BK374 := n0_
         have BK375 := n1_
         have BK381 := n2_
         have BK382 := n3_
         have BK388 := n4_
         have BK389 := n5_
         have BK395 := n6_
         have BK396 := n7_
         have HB := n8_
         clear n0_ n1_ n2_ n3_ n4_ n5_ n6_ n7_ n8_
         replace BK374 := Aside0.mk (blk_drew BK374.out)
         replace BK375 := Aside0.mk (blk_drew BK375.out)
         replace BK381 := Aside0.mk (blk_drew BK381.out)
         replace BK382 := Aside0.mk (blk_drew BK382.out)
         replace BK388 := Aside0.mk (blk_drew BK388.out)
         replace BK389 := Aside0.mk (blk_drew BK389.out)
         replace BK395 := Aside0.mk (blk_drew BK395.out)
         replace BK396 := Aside0.mk (blk_drew BK396.out)
         replace HB := Aside0.mk (below_drew1 HB.out)
         refine start_ (n := 28) (S := fun w' => w'.cell? ⟨gb388, 0, none⟩ = some (.int .i64 t383) ∧ w'.cell? ⟨gb388, 1, none⟩ = some (.int .i64 t384) ∧ w'.cell? ⟨gb381, 0, none⟩ = some (.int .i64 t376) ∧ w'.cell? ⟨gb381, 1, none⟩ = some (.int .i64 t377) ∧ w'.cell? ⟨gb389, 0, none⟩ = some (.int .i64 t385) ∧ w'.cell? ⟨gb389, 1, none⟩ = some (.int .i64 t386) ∧ w'.cell? ⟨gb382, 0, none⟩ = some (.int .i64 t378) ∧ w'.cell? ⟨gb382, 1, none⟩ = some (.int .i64 t379)) (ds := []) #[false, false, false, false, false, false, false, false, false, false, false, false, false, false, false, false, false, false, false, false, false, false, false, false, false, false, false, false] (by kernel_rfl) rfl rfl ⟨(blk_cell BK388.out 0).trans rfl, (blk_cell BK388.out 1).trans rfl, (blk_cell BK381.out 0).trans rfl, (blk_cell BK381.out 1).trans rfl, (blk_cell BK389.out 0).trans rfl, (blk_cell BK389.out 1).trans rfl, (blk_cell BK382.out 0).trans rfl, (blk_cell BK382.out 1).trans rfl⟩ (fun hHeld => ?_); refine with_tabW laws_FnTurnNeg.tab10 laws_FnTurnNeg.bits10 (fun HT_ HW_ => ?_)
         generalize w187.drew = w188 at BK374 BK375 BK381 BK382 BK388 BK389 BK395 BK396 HB hHeld ⊢
         refine pure_ (i := 0) (N := some 92) (v := ?_) (a' := ?_) #[true, false, false, false, false, false, false, false, false, false, false, false, false, false, false, false, false, false, false, false, false, false, false, false, false, false, false, false] rfl rfl (any_of HT_.out (by kernel_rfl)) (fun _ _ _ h => h) (Or.inl ⟨by rfl, ?_⟩) ?_ ?_
         rotate_left
         ·intro w'
          go_simp
          with_reducible rfl
         rotate_left
         ·simp only [Act.put, List.setIfInBounds_toArray, List.set_cons_zero, List.set_cons_succ, i64_w, i32_w]
          rfl
         refine pure_ (i := 1) (N := some 93) (v := ?_) (a' := ?_) #[true, true, false, false, false, false, false, false, false, false, false, false, false, false, false, false, false, false, false, false, false, false, false, false, false, false, false, false] rfl rfl (any_of HT_.out (by kernel_rfl)) (fun _ _ _ h => h) (Or.inl ⟨by rfl, ?_⟩) ?_ ?_
         rotate_left
         ·intro w'
          go_simp
          with_reducible rfl
         rotate_left
         ·simp only [Act.put, List.setIfInBounds_toArray, List.set_cons_zero, List.set_cons_succ, i64_w, i32_w]
          rfl
         refine take_ (i := 2) (N := some 94) (v := ?_) (a' := ?_) #[true, true, true, false, false, false, false, false, false, false, false, false, false, false, false, false, false, false, false, false, false, false, false, false, false, false, false, false] rfl rfl (take_ofW HT_.out HW_.out (by kernel_rfl)) (fun _ _ _ h => h) (Or.inl ⟨by rfl, ?_⟩) hHeld ?_ ?_
         rotate_left
         ·rintro w' ⟨s0, s1, s2, s3, s4, s5, s6, s7⟩
          go_simp
          with_reducible rfl
         rotate_left
         ·simp only [Act.put, List.setIfInBounds_toArray, List.set_cons_zero, List.set_cons_succ, i64_w, i32_w]
          rfl
         refine take_ (i := 3) (N := some 95) (v := ?_) (a' := ?_) #[true, true, true, true, false, false, false, false, false, false, false, false, false, false, false, false, false, false, false, false, false, false, false, false, false, false, false, false] rfl rfl (take_ofW HT_.out HW_.out (by kernel_rfl)) (fun _ _ _ h => h) (Or.inl ⟨by rfl, ?_⟩) hHeld ?_ ?_
         rotate_left
         ·rintro w' ⟨s0, s1, s2, s3, s4, s5, s6, s7⟩
          go_simp
          with_reducible rfl
         rotate_left
         ·simp only [Act.put, List.setIfInBounds_toArray, List.set_cons_zero, List.set_cons_succ, i64_w, i32_w]
          rfl
         refine one_ (i := 4) (N := some 96) #[true, true, true, true, true, false, false, false, false, false, false, false, false, false, false, false, false, false, false, false, false, false, false, false, false, false, false, false] rfl rfl (one_of HT_.out (by kernel_rfl)) (by decide) (fun K hK => ?_)
         refine gS Try.func27 #[.agg #[.int .i64 t376, .int .i64 t377]] ?_
         with_reducible refine (impl_SpanNeg.calls t376 t377 t397 t398 _ A77.out).mono ?_
         rintro e w189 ⟨rfl, hb⟩
         refine ⟨_, rfl, ?_⟩
         replace BK374 := bb (bk BK374) hb
         replace BK375 := bb (bk BK375) hb
         replace BK381 := bb (bk BK381) hb
         replace BK382 := bb (bk BK382) hb
         replace BK388 := bb (bk BK388) hb
         replace BK389 := bb (bk BK389) hb
         replace BK395 := bb (bk BK395) hb
         replace BK396 := bb (bk BK396) hb
         replace HB := hbb (hs_ HB) hb
         clear hb
         refine hK.out _ _ ⟨(blk_cell BK388.out 0).trans rfl, (blk_cell BK388.out 1).trans rfl, (blk_cell BK381.out 0).trans rfl, (blk_cell BK381.out 1).trans rfl, (blk_cell BK389.out 0).trans rfl, (blk_cell BK389.out 1).trans rfl, (blk_cell BK382.out 0).trans rfl, (blk_cell BK382.out 1).trans rfl⟩ (fun hHeld => ?_)
         clear hK K
         refine norm_ (a' := ?_) ?_ ?_
         rotate_left
         ·show Act.put _ (some 96) _ = _
          simp only [Act.put, List.setIfInBounds_toArray, List.set_cons_zero, List.set_cons_succ, i64_w, i32_w]
          rfl
         refine pure_ (i := 5) (N := some 97) (v := ?_) (a' := ?_) #[true, true, true, true, true, true, false, false, false, false, false, false, false, false, false, false, false, false, false, false, false, false, false, false, false, false, false, false] rfl rfl (any_of HT_.out (by kernel_rfl)) (fun _ _ _ h => h) (Or.inl ⟨by rfl, ?_⟩) ?_ ?_
         rotate_left
         ·intro w'
          go_simp
          with_reducible rfl
         rotate_left
         ·simp only [Act.put, List.setIfInBounds_toArray, List.set_cons_zero, List.set_cons_succ, i64_w, i32_w]
          rfl
         refine pure_ (i := 6) (N := some 98) (v := ?_) (a' := ?_) #[true, true, true, true, true, true, true, false, false, false, false, false, false, false, false, false, false, false, false, false, false, false, false, false, false, false, false, false] rfl rfl (any_of HT_.out (by kernel_rfl)) (fun _ _ _ h => h) (Or.inl ⟨by rfl, ?_⟩) ?_ ?_
         rotate_left
         ·intro w'
          go_simp
          with_reducible rfl
         rotate_left
         ·simp only [Act.put, List.setIfInBounds_toArray, List.set_cons_zero, List.set_cons_succ, i64_w, i32_w]
          rfl
         refine pure_ (i := 7) (N := some 99) (v := ?_) (a' := ?_) #[true, true, true, true, true, true, true, true, false, false, false, false, false, false, false, false, false, false, false, false, false, false, false, false, false, false, false, false] rfl rfl (any_of HT_.out (by kernel_rfl)) (fun _ _ _ h => h) (Or.inl ⟨by rfl, ?_⟩) ?_ ?_
         rotate_left
         ·intro w'
          go_simp
          with_reducible rfl
         rotate_left
         ·simp only [Act.put, List.setIfInBounds_toArray, List.set_cons_zero, List.set_cons_succ, i64_w, i32_w]
          rfl
         refine take_ (i := 8) (N := some 100) (v := ?_) (a' := ?_) #[true, true, true, true, true, true, true, true, true, false, false, false, false, false, false, false, false, false, false, false, false, false, false, false, false, false, false, false] rfl rfl (take_ofW HT_.out HW_.out (by kernel_rfl)) (fun _ _ _ h => h) (Or.inl ⟨by rfl, ?_⟩) hHeld ?_ ?_
         rotate_left
         ·rintro w' ⟨s0, s1, s2, s3, s4, s5, s6, s7⟩
          go_simp
          with_reducible rfl
         rotate_left
         ·simp only [Act.put, List.setIfInBounds_toArray, List.set_cons_zero, List.set_cons_succ, i64_w, i32_w]
          rfl
         refine take_ (i := 9) (N := some 101) (v := ?_) (a' := ?_) #[true, true, true, true, true, true, true, true, true, true, false, false, false, false, false, false, false, false, false, false, false, false, false, false, false, false, false, false] rfl rfl (take_ofW HT_.out HW_.out (by kernel_rfl)) (fun _ _ _ h => h) (Or.inl ⟨by rfl, ?_⟩) hHeld ?_ ?_
         rotate_left
         ·rintro w' ⟨s0, s1, s2, s3, s4, s5, s6, s7⟩
          go_simp
          with_reducible rfl
         rotate_left
         ·simp only [Act.put, List.setIfInBounds_toArray, List.set_cons_zero, List.set_cons_succ, i64_w, i32_w]
          rfl
         refine one_ (i := 10) (N := some 102) #[true, true, true, true, true, true, true, true, true, true, true, false, false, false, false, false, false, false, false, false, false, false, false, false, false, false, false, false] rfl rfl (one_of HT_.out (by kernel_rfl)) (by decide) (fun K hK => ?_)
         refine gS Try.func27 #[.agg #[.int .i64 t378, .int .i64 t379]] ?_
         with_reducible refine (impl_SpanNeg.calls t378 t379 t399 t400 _ A79.out).mono ?_
         rintro e w190 ⟨rfl, hb⟩
         refine ⟨_, rfl, ?_⟩
         replace BK374 := bb (bk BK374) hb
         replace BK375 := bb (bk BK375) hb
         replace BK381 := bb (bk BK381) hb
         replace BK382 := bb (bk BK382) hb
         replace BK388 := bb (bk BK388) hb
         replace BK389 := bb (bk BK389) hb
         replace BK395 := bb (bk BK395) hb
         replace BK396 := bb (bk BK396) hb
         replace HB := hbb (hs_ HB) hb
         clear hb
         refine hK.out _ _ ⟨(blk_cell BK388.out 0).trans rfl, (blk_cell BK388.out 1).trans rfl, (blk_cell BK381.out 0).trans rfl, (blk_cell BK381.out 1).trans rfl, (blk_cell BK389.out 0).trans rfl, (blk_cell BK389.out 1).trans rfl, (blk_cell BK382.out 0).trans rfl, (blk_cell BK382.out 1).trans rfl⟩ (fun hHeld => ?_)
         clear hK K
         refine norm_ (a' := ?_) ?_ ?_
         rotate_left
         ·show Act.put _ (some 102) _ = _
          simp only [Act.put, List.setIfInBounds_toArray, List.set_cons_zero, List.set_cons_succ, i64_w, i32_w]
          rfl
         refine pure_ (i := 11) (N := some 103) (v := ?_) (a' := ?_) #[true, true, true, true, true, true, true, true, true, true, true, true, false, false, false, false, false, false, false, false, false, false, false, false, false, false, false, false] rfl rfl (any_of HT_.out (by kernel_rfl)) (fun _ _ _ h => h) (Or.inl ⟨by rfl, ?_⟩) ?_ ?_
         rotate_left
         ·intro w'
          go_simp
          with_reducible rfl
         rotate_left
         ·simp only [Act.put, List.setIfInBounds_toArray, List.set_cons_zero, List.set_cons_succ, i64_w, i32_w]
          rfl
         refine pure_ (i := 12) (N := some 104) (v := ?_) (a' := ?_) #[true, true, true, true, true, true, true, true, true, true, true, true, true, false, false, false, false, false, false, false, false, false, false, false, false, false, false, false] rfl rfl (any_of HT_.out (by kernel_rfl)) (fun _ _ _ h => h) (Or.inl ⟨by rfl, ?_⟩) ?_ ?_
         rotate_left
         ·intro w'
          go_simp
          with_reducible rfl
         rotate_left
         ·simp only [Act.put, List.setIfInBounds_toArray, List.set_cons_zero, List.set_cons_succ, i64_w, i32_w]
          rfl
         refine pure_ (i := 13) (N := some 105) (v := ?_) (a' := ?_) #[true, true, true, true, true, true, true, true, true, true, true, true, true, true, false, false, false, false, false, false, false, false, false, false, false, false, false, false] rfl rfl (any_of HT_.out (by kernel_rfl)) (fun _ _ _ h => h) (Or.inl ⟨by rfl, ?_⟩) ?_ ?_
         rotate_left
         ·intro w'
          go_simp
          with_reducible rfl
         rotate_left
         ·simp only [Act.put, List.setIfInBounds_toArray, List.set_cons_zero, List.set_cons_succ, i64_w, i32_w]
          rfl
         refine pure_ (i := 14) (N := some 106) (v := ?_) (a' := ?_) #[true, true, true, true, true, true, true, true, true, true, true, true, true, true, true, false, false, false, false, false, false, false, false, false, false, false, false, false] rfl rfl (any_of HT_.out (by kernel_rfl)) (fun _ _ _ h => h) (Or.inl ⟨by rfl, ?_⟩) ?_ ?_
         rotate_left
         ·intro w'
          go_simp
          with_reducible rfl
         rotate_left
         ·simp only [Act.put, List.setIfInBounds_toArray, List.set_cons_zero, List.set_cons_succ, i64_w, i32_w]
          rfl
         refine pure_ (i := 15) (N := some 107) (v := ?_) (a' := ?_) #[true, true, true, true, true, true, true, true, true, true, true, true, true, true, true, true, false, false, false, false, false, false, false, false, false, false, false, false] rfl rfl (any_of HT_.out (by kernel_rfl)) (fun _ _ _ h => h) (Or.inl ⟨by rfl, ?_⟩) ?_ ?_
         rotate_left
         ·intro w'
          go_simp
          with_reducible rfl
         rotate_left
         ·simp only [Act.put, List.setIfInBounds_toArray, List.set_cons_zero, List.set_cons_succ, i64_w, i32_w]
          rfl
         refine pure_ (i := 16) (N := some 108) (v := ?_) (a' := ?_) #[true, true, true, true, true, true, true, true, true, true, true, true, true, true, true, true, true, false, false, false, false, false, false, false, false, false, false, false] rfl rfl (any_of HT_.out (by kernel_rfl)) (fun _ _ _ h => h) (Or.inl ⟨by rfl, ?_⟩) ?_ ?_
         rotate_left
         ·intro w'
          go_simp
          with_reducible rfl
         rotate_left
         ·simp only [Act.put, List.setIfInBounds_toArray, List.set_cons_zero, List.set_cons_succ, i64_w, i32_w]
          rfl
         refine pure_ (i := 17) (N := some 109) (v := undef) (a' := ?_) #[true, true, true, true, true, true, true, true, true, true, true, true, true, true, true, true, true, true, false, false, false, false, false, false, false, false, false, false] rfl rfl (any_of HT_.out (by kernel_rfl)) (fun _ _ _ h => h) (Or.inr ⟨by rfl, rfl⟩) ?_ ?_
         rotate_left
         ·simp only [Act.put, List.setIfInBounds_toArray, List.set_cons_zero, List.set_cons_succ, i64_w, i32_w]
          rfl
         refine pure_ (i := 18) (N := some 110) (v := undef) (a' := ?_) #[true, true, true, true, true, true, true, true, true, true, true, true, true, true, true, true, true, true, true, false, false, false, false, false, false, false, false, false] rfl rfl (any_of HT_.out (by kernel_rfl)) (fun _ _ _ h => h) (Or.inr ⟨by rfl, rfl⟩) ?_ ?_
         rotate_left
         ·simp only [Act.put, List.setIfInBounds_toArray, List.set_cons_zero, List.set_cons_succ, i64_w, i32_w]
          rfl
         refine pure_ (i := 19) (N := some 111) (v := undef) (a' := ?_) #[true, true, true, true, true, true, true, true, true, true, true, true, true, true, true, true, true, true, true, true, false, false, false, false, false, false, false, false] rfl rfl (any_of HT_.out (by kernel_rfl)) (fun _ _ _ h => h) (Or.inr ⟨by rfl, rfl⟩) ?_ ?_
         rotate_left
         ·simp only [Act.put, List.setIfInBounds_toArray, List.set_cons_zero, List.set_cons_succ, i64_w, i32_w]
          rfl
         refine pure_ (i := 20) (N := some 112) (v := undef) (a' := ?_) #[true, true, true, true, true, true, true, true, true, true, true, true, true, true, true, true, true, true, true, true, true, false, false, false, false, false, false, false] rfl rfl (any_of HT_.out (by kernel_rfl)) (fun _ _ _ h => h) (Or.inr ⟨by rfl, rfl⟩) ?_ ?_
         rotate_left
         ·simp only [Act.put, List.setIfInBounds_toArray, List.set_cons_zero, List.set_cons_succ, i64_w, i32_w]
          rfl
         refine pure_ (i := 21) (N := some 113) (v := undef) (a' := ?_) #[true, true, true, true, true, true, true, true, true, true, true, true, true, true, true, true, true, true, true, true, true, true, false, false, false, false, false, false] rfl rfl (any_of HT_.out (by kernel_rfl)) (fun _ _ _ h => h) (Or.inr ⟨by rfl, rfl⟩) ?_ ?_
         rotate_left
         ·simp only [Act.put, List.setIfInBounds_toArray, List.set_cons_zero, List.set_cons_succ, i64_w, i32_w]
          rfl
         refine pure_ (i := 22) (N := some 114) (v := undef) (a' := ?_) #[true, true, true, true, true, true, true, true, true, true, true, true, true, true, true, true, true, true, true, true, true, true, true, false, false, false, false, false] rfl rfl (any_of HT_.out (by kernel_rfl)) (fun _ _ _ h => h) (Or.inr ⟨by rfl, rfl⟩) ?_ ?_
         rotate_left
         ·simp only [Act.put, List.setIfInBounds_toArray, List.set_cons_zero, List.set_cons_succ, i64_w, i32_w]
          rfl
         refine pure_ (i := 23) (N := some 115) (v := undef) (a' := ?_) #[true, true, true, true, true, true, true, true, true, true, true, true, true, true, true, true, true, true, true, true, true, true, true, true, false, false, false, false] rfl rfl (any_of HT_.out (by kernel_rfl)) (fun _ _ _ h => h) (Or.inr ⟨by rfl, rfl⟩) ?_ ?_
         rotate_left
         ·simp only [Act.put, List.setIfInBounds_toArray, List.set_cons_zero, List.set_cons_succ, i64_w, i32_w]
          rfl
         refine pure_ (i := 24) (N := some 116) (v := undef) (a' := ?_) #[true, true, true, true, true, true, true, true, true, true, true, true, true, true, true, true, true, true, true, true, true, true, true, true, true, false, false, false] rfl rfl (any_of HT_.out (by kernel_rfl)) (fun _ _ _ h => h) (Or.inr ⟨by rfl, rfl⟩) ?_ ?_
         rotate_left
         ·simp only [Act.put, List.setIfInBounds_toArray, List.set_cons_zero, List.set_cons_succ, i64_w, i32_w]
          rfl
         refine pure_ (i := 25) (N := some 117) (v := ?_) (a' := ?_) #[true, true, true, true, true, true, true, true, true, true, true, true, true, true, true, true, true, true, true, true, true, true, true, true, true, true, false, false] rfl rfl (any_of HT_.out (by kernel_rfl)) (fun _ _ _ h => h) (Or.inl ⟨by rfl, ?_⟩) ?_ ?_
         rotate_left
         ·intro w'
          go_simp
          with_reducible rfl
         rotate_left
         ·simp only [Act.put, List.setIfInBounds_toArray, List.set_cons_zero, List.set_cons_succ, i64_w, i32_w]
          rfl
         refine pure_ (i := 26) (N := some 118) (v := ?_) (a' := ?_) #[true, true, true, true, true, true, true, true, true, true, true, true, true, true, true, true, true, true, true, true, true, true, true, true, true, true, true, false] rfl rfl (any_of HT_.out (by kernel_rfl)) (fun _ _ _ h => h) (Or.inl ⟨by rfl, ?_⟩) ?_ ?_
         rotate_left
         ·intro w'
          go_simp
          with_reducible rfl
         rotate_left
         ·simp only [Act.put, List.setIfInBounds_toArray, List.set_cons_zero, List.set_cons_succ, i64_w, i32_w]
          rfl
         refine pure_ (i := 27) (N := some 2) (v := ?_) (a' := ?_) #[true, true, true, true, true, true, true, true, true, true, true, true, true, true, true, true, true, true, true, true, true, true, true, true, true, true, true, true] rfl rfl (any_of HT_.out (by kernel_rfl)) (fun _ _ _ h => h) (Or.inl ⟨by rfl, ?_⟩) ?_ ?_
         rotate_left
         ·intro w'
          go_simp
          with_reducible rfl
         rotate_left
         ·simp only [Act.put, List.setIfInBounds_toArray, List.set_cons_zero, List.set_cons_succ, i64_w, i32_w]
          rfl
         refine done_ (done_of HT_.out (by kernel_rfl)) ?_
         try go_wp2
         go_ret
         exact ⟨by first | rfl | (simp [errW_none, errW_some] <;> rfl) | (simp [*, errW_none, errW_some] <;> rfl), hs_ HB⟩
       ·rw [if_neg c80] at H
        have c80b0 : (t385 == t399 && (t386 == t400)) = false := by simpa using c80
        (try (have c80b1 : decide (t385 = t399 && (t386 == t400)) = false := by simpa using c80))
        (try (have c80b2 : (t385 == t399 && (t386 == t400)) = false := by simpa using c80))
        (try (have c80b3 : ¬ (t385 = t399 && (t386 == t400)) := by simpa using c80))
        clear c80
        obtain rfl := Option.some.inj H
        try go_wp2_with (first | ((with_reducible refine gate_callee (f := 16) rfl ?_); refine gL 79 Try.func16 #[.int .i64 (wrap64 (-t366)), .int .i64 (wrap64 (-t367)), .int .i64 t368] ?_; (with_reducible refine (impl_TurnBy.calls kj5 (wrap64 (-t366)) (wrap64 (-t367)) t368 t383 t384 t385 t386 true _ A74.out).mono ?_); rintro e w191 ⟨rfl, hb⟩; refine ⟨_, rfl, ?_⟩; replace BK374 := bb (bk BK374) hb; replace BK375 := bb (bk BK375) hb; replace BK381 := bb (bk BK381) hb; replace BK382 := bb (bk BK382) hb; replace HB := hbb (hs_ HB) hb; clear hb) | ((with_reducible refine gate_dst (N := 12) rfl ?_); refine bE 12 #[.int .i64 0, .int .i64 0] 23 ?_; intro gb388 hg w192 hbox hb; have BK388 := Aside0.mk (hbox); have GE388 := gw hg (hs_ HB); have GW388 := GE388; have NB374_388 := nl hg (bk BK374); have NB388_374 := ng hg (bk BK374); have NB375_388 := nl hg (bk BK375); have NB388_375 := ng hg (bk BK375); have NB381_388 := nl hg (bk BK381); have NB388_381 := ng hg (bk BK381); have NB382_388 := nl hg (bk BK382); have NB388_382 := ng hg (bk BK382); replace BK374 := bb (bk BK374) hb; replace BK375 := bb (bk BK375) hb; replace BK381 := bb (bk BK381) hb; replace BK382 := bb (bk BK382) hb; replace HB := hbb (hs_ HB) hb; clear hb hbox hg) | ((with_reducible refine gate_dst (N := 13) rfl ?_); refine bE 13 #[.int .i64 0, .int .i64 0] 23 ?_; intro gb389 hg w193 hbox hb; have BK389 := Aside0.mk (hbox); have GE389 := gw hg (hs_ HB); have GW389 := GE389; have NB374_389 := nl hg (bk BK374); have NB389_374 := ng hg (bk BK374); have NB375_389 := nl hg (bk BK375); have NB389_375 := ng hg (bk BK375); have NB381_389 := nl hg (bk BK381); have NB389_381 := ng hg (bk BK381); have NB382_389 := nl hg (bk BK382); have NB389_382 := ng hg (bk BK382); have NB388_389 := nl hg (bk BK388); have NB389_388 := ng hg (bk BK388); replace BK374 := bb (bk BK374) hb; replace BK375 := bb (bk BK375) hb; replace BK381 := bb (bk BK381) hb; replace BK382 := bb (bk BK382) hb; replace BK388 := bb (bk BK388) hb; replace HB := hbb (hs_ HB) hb; clear hb hbox hg; have hnb194 := NB388_374.out; have hnc194 := NB374_388.out; have hnb195 := NB388_375.out; have hnc195 := NB375_388.out; have hnb196 := NB388_381.out; have hnc196 := NB381_388.out; have hnb197 := NB388_382.out; have hnc197 := NB382_388.out; have hnb198 := NB388_389.out; have hnc198 := NB389_388.out; obtain ⟨hcz199_0, hcz199_1, hfz199_0, hfz199_1⟩ := cz2 BK388; have hnb200 := NB389_374.out; have hnc200 := NB374_389.out; have hnb201 := NB389_375.out; have hnc201 := NB375_389.out; have hnb202 := NB389_381.out; have hnc202 := NB381_389.out; have hnb203 := NB389_382.out; have hnc203 := NB382_389.out; obtain ⟨hcz204_0, hcz204_1, hfz204_0, hfz204_1⟩ := cz2 BK389) | ((with_reducible refine gate_callee (f := 16) rfl ?_); refine gL 88 Try.func16 #[.int .i64 t366, .int .i64 t367, .int .i64 (wrap64 (t368 + 129600000))] ?_; (with_reducible refine (impl_TurnBy.calls kj5 t366 t367 (wrap64 (t368 + 129600000)) t390 t391 t392 t393 t394 _ A75.out).mono ?_); rintro e w205 ⟨rfl, hb⟩; refine ⟨_, rfl, ?_⟩; replace BK374 := bb (bk2 BK374 NB374_389 NB374_388) hb; replace BK375 := bb (bk2 BK375 NB375_389 NB375_388) hb; replace BK381 := bb (bk2 BK381 NB381_389 NB381_388) hb; replace BK382 := bb (bk2 BK382 NB382_389 NB382_388) hb; replace BK388 := bb (o := .cells #[.int .i64 t383, .int .i64 t384] 23 (0, 0)) (bkp BK388) hb; replace BK389 := bb (o := .cells #[.int .i64 t385, .int .i64 t386] 23 (0, 0)) (bkp BK389) hb; replace HB := hbb (hs_ HB) hb; clear hb) | ((with_reducible refine gate_dst (N := 15) rfl ?_); refine bE 15 #[.int .i64 0, .int .i64 0] 23 ?_; intro gb395 hg w206 hbox hb; have BK395 := Aside0.mk (hbox); have GE395 := gw hg (hs_ HB); have GW395 := GE395; have NB374_395 := nl hg (bk BK374); have NB395_374 := ng hg (bk BK374); have NB375_395 := nl hg (bk BK375); have NB395_375 := ng hg (bk BK375); have NB381_395 := nl hg (bk BK381); have NB395_381 := ng hg (bk BK381); have NB382_395 := nl hg (bk BK382); have NB395_382 := ng hg (bk BK382); have NB388_395 := nl hg (bk BK388); have NB395_388 := ng hg (bk BK388); have NB389_395 := nl hg (bk BK389); have NB395_389 := ng hg (bk BK389); replace BK374 := bb (bk BK374) hb; replace BK375 := bb (bk BK375) hb; replace BK381 := bb (bk BK381) hb; replace BK382 := bb (bk BK382) hb; replace BK388 := bb (bk BK388) hb; replace BK389 := bb (bk BK389) hb; replace HB := hbb (hs_ HB) hb; clear hb hbox hg) | ((with_reducible refine gate_dst (N := 16) rfl ?_); refine bE 16 #[.int .i64 0, .int .i64 0] 23 ?_; intro gb396 hg w207 hbox hb; have BK396 := Aside0.mk (hbox); have GE396 := gw hg (hs_ HB); have GW396 := GE396; have NB374_396 := nl hg (bk BK374); have NB396_374 := ng hg (bk BK374); have NB375_396 := nl hg (bk BK375); have NB396_375 := ng hg (bk BK375); have NB381_396 := nl hg (bk BK381); have NB396_381 := ng hg (bk BK381); have NB382_396 := nl hg (bk BK382); have NB396_382 := ng hg (bk BK382); have NB388_396 := nl hg (bk BK388); have NB396_388 := ng hg (bk BK388); have NB389_396 := nl hg (bk BK389); have NB396_389 := ng hg (bk BK389); have NB395_396 := nl hg (bk BK395); have NB396_395 := ng hg (bk BK395); replace BK374 := bb (bk BK374) hb; replace BK375 := bb (bk BK375) hb; replace BK381 := bb (bk BK381) hb; replace BK382 := bb (bk BK382) hb; replace BK388 := bb (bk BK388) hb; replace BK389 := bb (bk BK389) hb; replace BK395 := bb (bk BK395) hb; replace HB := hbb (hs_ HB) hb; clear hb hbox hg; have hnb208 := NB395_374.out; have hnc208 := NB374_395.out; have hnb209 := NB395_375.out; have hnc209 := NB375_395.out; have hnb210 := NB395_381.out; have hnc210 := NB381_395.out; have hnb211 := NB395_382.out; have hnc211 := NB382_395.out; have hnb212 := NB395_388.out; have hnc212 := NB388_395.out; have hnb213 := NB395_389.out; have hnc213 := NB389_395.out; have hnb214 := NB395_396.out; have hnc214 := NB396_395.out; obtain ⟨hcz215_0, hcz215_1, hfz215_0, hfz215_1⟩ := cz2 BK395; have hnb216 := NB396_374.out; have hnc216 := NB374_396.out; have hnb217 := NB396_375.out; have hnc217 := NB375_396.out; have hnb218 := NB396_381.out; have hnc218 := NB381_396.out; have hnb219 := NB396_382.out; have hnc219 := NB382_396.out; have hnb220 := NB396_388.out; have hnc220 := NB388_396.out; have hnb221 := NB396_389.out; have hnc221 := NB389_396.out; obtain ⟨hcz222_0, hcz222_1, hfz222_0, hfz222_1⟩ := cz2 BK396))
        have n0_ : Aside0 (((((w207.setCell ⟨gb395, 0, none⟩ (.int .i64 t390)).setCell ⟨gb395, 1, none⟩ (.int .i64 t391)).setCell ⟨gb396, 0, none⟩ (.int .i64 t392)).setCell ⟨gb396, 1, none⟩ (.int .i64 t393)).heap[gb374]? = some (.cells #[.int .i64 t369, .int .i64 t370] 23 (0, 0))) := ⟨bk2 BK374 NB374_396 NB374_395⟩
        have n1_ : Aside0 (((((w207.setCell ⟨gb395, 0, none⟩ (.int .i64 t390)).setCell ⟨gb395, 1, none⟩ (.int .i64 t391)).setCell ⟨gb396, 0, none⟩ (.int .i64 t392)).setCell ⟨gb396, 1, none⟩ (.int .i64 t393)).heap[gb375]? = some (.cells #[.int .i64 t371, .int .i64 t372] 23 (0, 0))) := ⟨bk2 BK375 NB375_396 NB375_395⟩
        have n2_ : Aside0 (((((w207.setCell ⟨gb395, 0, none⟩ (.int .i64 t390)).setCell ⟨gb395, 1, none⟩ (.int .i64 t391)).setCell ⟨gb396, 0, none⟩ (.int .i64 t392)).setCell ⟨gb396, 1, none⟩ (.int .i64 t393)).heap[gb381]? = some (.cells #[.int .i64 t376, .int .i64 t377] 23 (0, 0))) := ⟨bk2 BK381 NB381_396 NB381_395⟩
        have n3_ : Aside0 (((((w207.setCell ⟨gb395, 0, none⟩ (.int .i64 t390)).setCell ⟨gb395, 1, none⟩ (.int .i64 t391)).setCell ⟨gb396, 0, none⟩ (.int .i64 t392)).setCell ⟨gb396, 1, none⟩ (.int .i64 t393)).heap[gb382]? = some (.cells #[.int .i64 t378, .int .i64 t379] 23 (0, 0))) := ⟨bk2 BK382 NB382_396 NB382_395⟩
        have n4_ : Aside0 (((((w207.setCell ⟨gb395, 0, none⟩ (.int .i64 t390)).setCell ⟨gb395, 1, none⟩ (.int .i64 t391)).setCell ⟨gb396, 0, none⟩ (.int .i64 t392)).setCell ⟨gb396, 1, none⟩ (.int .i64 t393)).heap[gb388]? = some (.cells #[.int .i64 t383, .int .i64 t384] 23 (0, 0))) := ⟨bk2 BK388 NB388_396 NB388_395⟩
        have n5_ : Aside0 (((((w207.setCell ⟨gb395, 0, none⟩ (.int .i64 t390)).setCell ⟨gb395, 1, none⟩ (.int .i64 t391)).setCell ⟨gb396, 0, none⟩ (.int .i64 t392)).setCell ⟨gb396, 1, none⟩ (.int .i64 t393)).heap[gb389]? = some (.cells #[.int .i64 t385, .int .i64 t386] 23 (0, 0))) := ⟨bk2 BK389 NB389_396 NB389_395⟩
        have n6_ : Aside0 (((((w207.setCell ⟨gb395, 0, none⟩ (.int .i64 t390)).setCell ⟨gb395, 1, none⟩ (.int .i64 t391)).setCell ⟨gb396, 0, none⟩ (.int .i64 t392)).setCell ⟨gb396, 1, none⟩ (.int .i64 t393)).heap[gb395]? = some (.cells #[.int .i64 t390, .int .i64 t391] 23 (0, 0))) := ⟨bkp BK395⟩
        have n7_ : Aside0 (((((w207.setCell ⟨gb395, 0, none⟩ (.int .i64 t390)).setCell ⟨gb395, 1, none⟩ (.int .i64 t391)).setCell ⟨gb396, 0, none⟩ (.int .i64 t392)).setCell ⟨gb396, 1, none⟩ (.int .i64 t393)).heap[gb396]? = some (.cells #[.int .i64 t392, .int .i64 t393] 23 (0, 0))) := ⟨bkp BK396⟩
        have n8_ : Aside0 (Below w.heap.size w ((((w207.setCell ⟨gb395, 0, none⟩ (.int .i64 t390)).setCell ⟨gb395, 1, none⟩ (.int .i64 t391)).setCell ⟨gb396, 0, none⟩ (.int .i64 t392)).setCell ⟨gb396, 1, none⟩ (.int .i64 t393))) := ⟨hs_ HB⟩
        (try clear BK374)
        (try clear BK375)
        (try clear BK381)
        (try clear BK382)
        (try clear BK388)
        (try clear BK389)
        (try clear BK395)
        (try clear BK396)
        (try clear HB)
        generalize ((((w207.setCell ⟨gb395, 0, none⟩ (.int .i64 t390)).setCell ⟨gb395, 1, none⟩ (.int .i64 t391)).setCell ⟨gb396, 0, none⟩ (.int .i64 t392)).setCell ⟨gb396, 1, none⟩ (.int .i64 t393)) = w223 at n0_ n1_ n2_ n3_ n4_ n5_ n6_ n7_ n8_ ⊢
        have BK374 := n0_
        have BK375 := n1_
        have BK381 := n2_
        have BK382 := n3_
        have BK388 := n4_
        have BK389 := n5_
        have BK395 := n6_
        have BK396 := n7_
        have HB := n8_
        clear n0_ n1_ n2_ n3_ n4_ n5_ n6_ n7_ n8_
        replace BK374 := Aside0.mk (blk_drew BK374.out)
        replace BK375 := Aside0.mk (blk_drew BK375.out)
        replace BK381 := Aside0.mk (blk_drew BK381.out)
        replace BK382 := Aside0.mk (blk_drew BK382.out)
        replace BK388 := Aside0.mk (blk_drew BK388.out)
        replace BK389 := Aside0.mk (blk_drew BK389.out)
        replace BK395 := Aside0.mk (blk_drew BK395.out)
        replace BK396 := Aside0.mk (blk_drew BK396.out)
        replace HB := Aside0.mk (below_drew1 HB.out)
        refine start_ (n := 28) (S := fun w' => w'.cell? ⟨gb388, 0, none⟩ = some (.int .i64 t383) ∧ w'.cell? ⟨gb388, 1, none⟩ = some (.int .i64 t384) ∧ w'.cell? ⟨gb381, 0, none⟩ = some (.int .i64 t376) ∧ w'.cell? ⟨gb381, 1, none⟩ = some (.int .i64 t377) ∧ w'.cell? ⟨gb389, 0, none⟩ = some (.int .i64 t385) ∧ w'.cell? ⟨gb389, 1, none⟩ = some (.int .i64 t386) ∧ w'.cell? ⟨gb382, 0, none⟩ = some (.int .i64 t378) ∧ w'.cell? ⟨gb382, 1, none⟩ = some (.int .i64 t379)) (ds := []) #[false, false, false, false, false, false, false, false, false, false, false, false, false, false, false, false, false, false, false, false, false, false, false, false, false, false, false, false] (by kernel_rfl) rfl rfl ⟨(blk_cell BK388.out 0).trans rfl, (blk_cell BK388.out 1).trans rfl, (blk_cell BK381.out 0).trans rfl, (blk_cell BK381.out 1).trans rfl, (blk_cell BK389.out 0).trans rfl, (blk_cell BK389.out 1).trans rfl, (blk_cell BK382.out 0).trans rfl, (blk_cell BK382.out 1).trans rfl⟩ (fun hHeld => ?_); refine with_tabW laws_FnTurnNeg.tab10 laws_FnTurnNeg.bits10 (fun HT_ HW_ => ?_)
        generalize w223.drew = w224 at BK374 BK375 BK381 BK382 BK388 BK389 BK395 BK396 HB hHeld ⊢
        refine pure_ (i := 0) (N := some 92) (v := ?_) (a' := ?_) #[true, false, false, false, false, false, false, false, false, false, false, false, false, false, false, false, false, false, false, false, false, false, false, false, false, false, false, false] rfl rfl (any_of HT_.out (by kernel_rfl)) (fun _ _ _ h => h) (Or.inl ⟨by rfl, ?_⟩) ?_ ?_
        rotate_left
        ·intro w'
         go_simp
         with_reducible rfl
        rotate_left
        ·simp only [Act.put, List.setIfInBounds_toArray, List.set_cons_zero, List.set_cons_succ, i64_w, i32_w]
         rfl
        refine pure_ (i := 1) (N := some 93) (v := ?_) (a' := ?_) #[true, true, false, false, false, false, false, false, false, false, false, false, false, false, false, false, false, false, false, false, false, false, false, false, false, false, false, false] rfl rfl (any_of HT_.out (by kernel_rfl)) (fun _ _ _ h => h) (Or.inl ⟨by rfl, ?_⟩) ?_ ?_
        rotate_left
        ·intro w'
         go_simp
         with_reducible rfl
        rotate_left
        ·simp only [Act.put, List.setIfInBounds_toArray, List.set_cons_zero, List.set_cons_succ, i64_w, i32_w]
         rfl
        refine take_ (i := 2) (N := some 94) (v := ?_) (a' := ?_) #[true, true, true, false, false, false, false, false, false, false, false, false, false, false, false, false, false, false, false, false, false, false, false, false, false, false, false, false] rfl rfl (take_ofW HT_.out HW_.out (by kernel_rfl)) (fun _ _ _ h => h) (Or.inl ⟨by rfl, ?_⟩) hHeld ?_ ?_
        rotate_left
        ·rintro w' ⟨s0, s1, s2, s3, s4, s5, s6, s7⟩
         go_simp
         with_reducible rfl
        rotate_left
        ·simp only [Act.put, List.setIfInBounds_toArray, List.set_cons_zero, List.set_cons_succ, i64_w, i32_w]
         rfl
        refine take_ (i := 3) (N := some 95) (v := ?_) (a' := ?_) #[true, true, true, true, false, false, false, false, false, false, false, false, false, false, false, false, false, false, false, false, false, false, false, false, false, false, false, false] rfl rfl (take_ofW HT_.out HW_.out (by kernel_rfl)) (fun _ _ _ h => h) (Or.inl ⟨by rfl, ?_⟩) hHeld ?_ ?_
        rotate_left
        ·rintro w' ⟨s0, s1, s2, s3, s4, s5, s6, s7⟩
         go_simp
         with_reducible rfl
        rotate_left
        ·simp only [Act.put, List.setIfInBounds_toArray, List.set_cons_zero, List.set_cons_succ, i64_w, i32_w]
         rfl
        refine one_ (i := 4) (N := some 96) #[true, true, true, true, true, false, false, false, false, false, false, false, false, false, false, false, false, false, false, false, false, false, false, false, false, false, false, false] rfl rfl (one_of HT_.out (by kernel_rfl)) (by decide) (fun K hK => ?_)
        refine gS Try.func27 #[.agg #[.int .i64 t376, .int .i64 t377]] ?_
        with_reducible refine (impl_SpanNeg.calls t376 t377 t397 t398 _ A77.out).mono ?_
        rintro e w225 ⟨rfl, hb⟩
        refine ⟨_, rfl, ?_⟩
        replace BK374 := bb (bk BK374) hb
        replace BK375 := bb (bk BK375) hb
        replace BK381 := bb (bk BK381) hb
        replace BK382 := bb (bk BK382) hb
        replace BK388 := bb (bk BK388) hb
        replace BK389 := bb (bk BK389) hb
        replace BK395 := bb (bk BK395) hb
        replace BK396 := bb (bk BK396) hb
        replace HB := hbb (hs_ HB) hb
        clear hb
        refine hK.out _ _ ⟨(blk_cell BK388.out 0).trans rfl, (blk_cell BK388.out 1).trans rfl, (blk_cell BK381.out 0).trans rfl, (blk_cell BK381.out 1).trans rfl, (blk_cell BK389.out 0).trans rfl, (blk_cell BK389.out 1).trans rfl, (blk_cell BK382.out 0).trans rfl, (blk_cell BK382.out 1).trans rfl⟩ (fun hHeld => ?_)
        clear hK K
        refine norm_ (a' := ?_) ?_ ?_
        rotate_left
        ·show Act.put _ (some 96) _ = _
         simp only [Act.put, List.setIfInBounds_toArray, List.set_cons_zero, List.set_cons_succ, i64_w, i32_w]
         rfl
        refine pure_ (i := 5) (N := some 97) (v := ?_) (a' := ?_) #[true, true, true, true, true, true, false, false, false, false, false, false, false, false, false, false, false, false, false, false, false, false, false, false, false, false, false, false] rfl rfl (any_of HT_.out (by kernel_rfl)) (fun _ _ _ h => h) (Or.inl ⟨by rfl, ?_⟩) ?_ ?_
        rotate_left
        ·intro w'
         go_simp
         with_reducible rfl
        rotate_left
        ·simp only [Act.put, List.setIfInBounds_toArray, List.set_cons_zero, List.set_cons_succ, i64_w, i32_w]
         rfl
        refine pure_ (i := 6) (N := some 98) (v := ?_) (a' := ?_) #[true, true, true, true, true, true, true, false, false, false, false, false, false, false, false, false, false, false, false, false, false, false, false, false, false, false, false, false] rfl rfl (any_of HT_.out (by kernel_rfl)) (fun _ _ _ h => h) (Or.inl ⟨by rfl, ?_⟩) ?_ ?_
        rotate_left
        ·intro w'
         go_simp
         with_reducible rfl
        rotate_left
        ·simp only [Act.put, List.setIfInBounds_toArray, List.set_cons_zero, List.set_cons_succ, i64_w, i32_w]
         rfl
        refine pure_ (i := 7) (N := some 99) (v := ?_) (a' := ?_) #[true, true, true, true, true, true, true, true, false, false, false, false, false, false, false, false, false, false, false, false, false, false, false, false, false, false, false, false] rfl rfl (any_of HT_.out (by kernel_rfl)) (fun _ _ _ h => h) (Or.inl ⟨by rfl, ?_⟩) ?_ ?_
        rotate_left
        ·intro w'
         go_simp
         with_reducible rfl
        rotate_left
        ·simp only [Act.put, List.setIfInBounds_toArray, List.set_cons_zero, List.set_cons_succ, i64_w, i32_w]
         rfl
        refine take_ (i := 8) (N := some 100) (v := ?_) (a' := ?_) #[true, true, true, true, true, true, true, true, true, false, false, false, false, false, false, false, false, false, false, false, false, false, false, false, false, false, false, false] rfl rfl (take_ofW HT_.out HW_.out (by kernel_rfl)) (fun _ _ _ h => h) (Or.inl ⟨by rfl, ?_⟩) hHeld ?_ ?_
        rotate_left
        ·rintro w' ⟨s0, s1, s2, s3, s4, s5, s6, s7⟩
         go_simp
         with_reducible rfl
        rotate_left
        ·simp only [Act.put, List.setIfInBounds_toArray, List.set_cons_zero, List.set_cons_succ, i64_w, i32_w]
         rfl
        refine take_ (i := 9) (N := some 101) (v := ?_) (a' := ?_) #[true, true, true, true, true, true, true, true, true, true, false, false, false, false, false, false, false, false, false, false, false, false, false, false, false, false, false, false] rfl rfl (take_ofW HT_.out HW_.out (by kernel_rfl)) (fun _ _ _ h => h) (Or.inl ⟨by rfl, ?_⟩) hHeld ?_ ?_
        rotate_left
        ·rintro w' ⟨s0, s1, s2, s3, s4, s5, s6, s7⟩
         go_simp
         with_reducible rfl
        rotate_left
        ·simp only [Act.put, List.setIfInBounds_toArray, List.set_cons_zero, List.set_cons_succ, i64_w, i32_w]
         rfl
        refine one_ (i := 10) (N := some 102) #[true, true, true, true, true, true, true, true, true, true, true, false, false, false, false, false, false, false, false, false, false, false, false, false, false, false, false, false] rfl rfl (one_of HT_.out (by kernel_rfl)) (by decide) (fun K hK => ?_)
        refine gS Try.func27 #[.agg #[.int .i64 t378, .int .i64 t379]] ?_
        with_reducible refine (impl_SpanNeg.calls t378 t379 t399 t400 _ A79.out).mono ?_
        rintro e w226 ⟨rfl, hb⟩
        refine ⟨_, rfl, ?_⟩
        replace BK374 := bb (bk BK374) hb
        replace BK375 := bb (bk BK375) hb
        replace BK381 := bb (bk BK381) hb
        replace BK382 := bb (bk BK382) hb
        replace BK388 := bb (bk BK388) hb
        replace BK389 := bb (bk BK389) hb
        replace BK395 := bb (bk BK395) hb
        replace BK396 := bb (bk BK396) hb
        replace HB := hbb (hs_ HB) hb
        clear hb
        refine hK.out _ _ ⟨(blk_cell BK388.out 0).trans rfl, (blk_cell BK388.out 1).trans rfl, (blk_cell BK381.out 0).trans rfl, (blk_cell BK381.out 1).trans rfl, (blk_cell BK389.out 0).trans rfl, (blk_cell BK389.out 1).trans rfl, (blk_cell BK382.out 0).trans rfl, (blk_cell BK382.out 1).trans rfl⟩ (fun hHeld => ?_)
        clear hK K
        refine norm_ (a' := ?_) ?_ ?_
        rotate_left
        ·show Act.put _ (some 102) _ = _
         simp only [Act.put, List.setIfInBounds_toArray, List.set_cons_zero, List.set_cons_succ, i64_w, i32_w]
         rfl
        refine pure_ (i := 11) (N := some 103) (v := ?_) (a' := ?_) #[true, true, true, true, true, true, true, true, true, true, true, true, false, false, false, false, false, false, false, false, false, false, false, false, false, false, false, false] rfl rfl (any_of HT_.out (by kernel_rfl)) (fun _ _ _ h => h) (Or.inl ⟨by rfl, ?_⟩) ?_ ?_
        rotate_left
        ·intro w'
         go_simp
         with_reducible rfl
        rotate_left
        ·simp only [Act.put, List.setIfInBounds_toArray, List.set_cons_zero, List.set_cons_succ, i64_w, i32_w]
         rfl
        refine pure_ (i := 12) (N := some 104) (v := ?_) (a' := ?_) #[true, true, true, true, true, true, true, true, true, true, true, true, true, false, false, false, false, false, false, false, false, false, false, false, false, false, false, false] rfl rfl (any_of HT_.out (by kernel_rfl)) (fun _ _ _ h => h) (Or.inl ⟨by rfl, ?_⟩) ?_ ?_
        rotate_left
        ·intro w'
         go_simp
         with_reducible rfl
        rotate_left
        ·simp only [Act.put, List.setIfInBounds_toArray, List.set_cons_zero, List.set_cons_succ, i64_w, i32_w]
         rfl
        refine pure_ (i := 13) (N := some 105) (v := ?_) (a' := ?_) #[true, true, true, true, true, true, true, true, true, true, true, true, true, true, false, false, false, false, false, false, false, false, false, false, false, false, false, false] rfl rfl (any_of HT_.out (by kernel_rfl)) (fun _ _ _ h => h) (Or.inl ⟨by rfl, ?_⟩) ?_ ?_
        rotate_left
        ·intro w'
         go_simp
         with_reducible rfl
        rotate_left
        ·simp only [Act.put, List.setIfInBounds_toArray, List.set_cons_zero, List.set_cons_succ, i64_w, i32_w]
         rfl
        refine pure_ (i := 14) (N := some 106) (v := undef) (a' := ?_) #[true, true, true, true, true, true, true, true, true, true, true, true, true, true, true, false, false, false, false, false, false, false, false, false, false, false, false, false] rfl rfl (any_of HT_.out (by kernel_rfl)) (fun _ _ _ h => h) (Or.inr ⟨by rfl, rfl⟩) ?_ ?_
        rotate_left
        ·simp only [Act.put, List.setIfInBounds_toArray, List.set_cons_zero, List.set_cons_succ, i64_w, i32_w]
         rfl
        refine pure_ (i := 15) (N := some 107) (v := undef) (a' := ?_) #[true, true, true, true, true, true, true, true, true, true, true, true, true, true, true, true, false, false, false, false, false, false, false, false, false, false, false, false] rfl rfl (any_of HT_.out (by kernel_rfl)) (fun _ _ _ h => h) (Or.inr ⟨by rfl, rfl⟩) ?_ ?_
        rotate_left
        ·simp only [Act.put, List.setIfInBounds_toArray, List.set_cons_zero, List.set_cons_succ, i64_w, i32_w]
         rfl
        refine pure_ (i := 16) (N := some 108) (v := undef) (a' := ?_) #[true, true, true, true, true, true, true, true, true, true, true, true, true, true, true, true, true, false, false, false, false, false, false, false, false, false, false, false] rfl rfl (any_of HT_.out (by kernel_rfl)) (fun _ _ _ h => h) (Or.inr ⟨by rfl, rfl⟩) ?_ ?_
        rotate_left
        ·simp only [Act.put, List.setIfInBounds_toArray, List.set_cons_zero, List.set_cons_succ, i64_w, i32_w]
         rfl
        refine pure_ (i := 17) (N := some 109) (v := undef) (a' := ?_) #[true, true, true, true, true, true, true, true, true, true, true, true, true, true, true, true, true, true, false, false, false, false, false, false, false, false, false, false] rfl rfl (any_of HT_.out (by kernel_rfl)) (fun _ _ _ h => h) (Or.inr ⟨by rfl, rfl⟩) ?_ ?_
        rotate_left
        ·simp only [Act.put, List.setIfInBounds_toArray, List.set_cons_zero, List.set_cons_succ, i64_w, i32_w]
         rfl
        refine pure_ (i := 18) (N := some 110) (v := undef) (a' := ?_) #[true, true, true, true, true, true, true, true, true, true, true, true, true, true, true, true, true, true, true, false, false, false, false, false, false, false, false, false] rfl rfl (any_of HT_.out (by kernel_rfl)) (fun _ _ _ h => h) (Or.inr ⟨by rfl, rfl⟩) ?_ ?_
        rotate_left
        ·simp only [Act.put, List.setIfInBounds_toArray, List.set_cons_zero, List.set_cons_succ, i64_w, i32_w]
         rfl
        refine pure_ (i := 19) (N := some 111) (v := undef) (a' := ?_) #[true, true, true, true, true, true, true, true, true, true, true, true, true, true, true, true, true, true, true, true, false, false, false, false, false, false, false, false] rfl rfl (any_of HT_.out (by kernel_rfl)) (fun _ _ _ h => h) (Or.inr ⟨by rfl, rfl⟩) ?_ ?_
        rotate_left
        ·simp only [Act.put, List.setIfInBounds_toArray, List.set_cons_zero, List.set_cons_succ, i64_w, i32_w]
         rfl
        refine pure_ (i := 20) (N := some 112) (v := undef) (a' := ?_) #[true, true, true, true, true, true, true, true, true, true, true, true, true, true, true, true, true, true, true, true, true, false, false, false, false, false, false, false] rfl rfl (any_of HT_.out (by kernel_rfl)) (fun _ _ _ h => h) (Or.inr ⟨by rfl, rfl⟩) ?_ ?_
        rotate_left
        ·simp only [Act.put, List.setIfInBounds_toArray, List.set_cons_zero, List.set_cons_succ, i64_w, i32_w]
         rfl
        refine pure_ (i := 21) (N := some 113) (v := undef) (a' := ?_) #[true, true, true, true, true, true, true, true, true, true, true, true, true, true, true, true, true, true, true, true, true, true, false, false, false, false, false, false] rfl rfl (any_of HT_.out (by kernel_rfl)) (fun _ _ _ h => h) (Or.inr ⟨by rfl, rfl⟩) ?_ ?_
        rotate_left
        ·simp only [Act.put, List.setIfInBounds_toArray, List.set_cons_zero, List.set_cons_succ, i64_w, i32_w]
         rfl
        refine pure_ (i := 22) (N := some 114) (v := undef) (a' := ?_) #[true, true, true, true, true, true, true, true, true, true, true, true, true, true, true, true, true, true, true, true, true, true, true, false, false, false, false, false] rfl rfl (any_of HT_.out (by kernel_rfl)) (fun _ _ _ h => h) (Or.inr ⟨by rfl, rfl⟩) ?_ ?_
        rotate_left
        ·simp only [Act.put, List.setIfInBounds_toArray, List.set_cons_zero, List.set_cons_succ, i64_w, i32_w]
         rfl
        refine pure_ (i := 23) (N := some 115) (v := undef) (a' := ?_) #[true, true, true, true, true, true, true, true, true, true, true, true, true, true, true, true, true, true, true, true, true, true, true, true, false, false, false, false] rfl rfl (any_of HT_.out (by kernel_rfl)) (fun _ _ _ h => h) (Or.inr ⟨by rfl, rfl⟩) ?_ ?_
        rotate_left
        ·simp only [Act.put, List.setIfInBounds_toArray, List.set_cons_zero, List.set_cons_succ, i64_w, i32_w]
         rfl
        refine pure_ (i := 24) (N := some 116) (v := undef) (a' := ?_) #[true, true, true, true, true, true, true, true, true, true, true, true, true, true, true, true, true, true, true, true, true, true, true, true, true, false, false, false] rfl rfl (any_of HT_.out (by kernel_rfl)) (fun _ _ _ h => h) (Or.inr ⟨by rfl, rfl⟩) ?_ ?_
        rotate_left
        ·simp only [Act.put, List.setIfInBounds_toArray, List.set_cons_zero, List.set_cons_succ, i64_w, i32_w]
         rfl
        refine pure_ (i := 25) (N := some 117) (v := undef) (a' := ?_) #[true, true, true, true, true, true, true, true, true, true, true, true, true, true, true, true, true, true, true, true, true, true, true, true, true, true, false, false] rfl rfl (any_of HT_.out (by kernel_rfl)) (fun _ _ _ h => h) (Or.inr ⟨by rfl, rfl⟩) ?_ ?_
        rotate_left
        ·simp only [Act.put, List.setIfInBounds_toArray, List.set_cons_zero, List.set_cons_succ, i64_w, i32_w]
         rfl
        refine pure_ (i := 26) (N := some 118) (v := ?_) (a' := ?_) #[true, true, true, true, true, true, true, true, true, true, true, true, true, true, true, true, true, true, true, true, true, true, true, true, true, true, true, false] rfl rfl (any_of HT_.out (by kernel_rfl)) (fun _ _ _ h => h) (Or.inl ⟨by rfl, ?_⟩) ?_ ?_
        rotate_left
        ·intro w'
         go_simp
         with_reducible rfl
        rotate_left
        ·simp only [Act.put, List.setIfInBounds_toArray, List.set_cons_zero, List.set_cons_succ, i64_w, i32_w]
         rfl
        refine pure_ (i := 27) (N := some 2) (v := ?_) (a' := ?_) #[true, true, true, true, true, true, true, true, true, true, true, true, true, true, true, true, true, true, true, true, true, true, true, true, true, true, true, true] rfl rfl (any_of HT_.out (by kernel_rfl)) (fun _ _ _ h => h) (Or.inl ⟨by rfl, ?_⟩) ?_ ?_
        rotate_left
        ·intro w'
         go_simp
         with_reducible rfl
        rotate_left
        ·simp only [Act.put, List.setIfInBounds_toArray, List.set_cons_zero, List.set_cons_succ, i64_w, i32_w]
         rfl
        refine done_ (done_of HT_.out (by kernel_rfl)) ?_
        try go_wp2
        go_ret
        exact ⟨by first | rfl | (simp [errW_none, errW_some] <;> rfl) | (simp [*, errW_none, errW_some] <;> rfl), hs_ HB⟩
      ·rw [if_neg c78] at H
       have c78b0 : (t383 == t397 && (t384 == t398)) = false := by simpa using c78
       (try (have c78b1 : decide (t383 = t397 && (t384 == t398)) = false := by simpa using c78))
       (try (have c78b2 : (t383 == t397 && (t384 == t398)) = false := by simpa using c78))
       (try (have c78b3 : ¬ (t383 = t397 && (t384 == t398)) := by simpa using c78))
       clear c78
       obtain rfl := Option.some.inj H
       try go_wp2_with (first | ((with_reducible refine gate_callee (f := 16) rfl ?_); refine gL 79 Try.func16 #[.int .i64 (wrap64 (-t366)), .int .i64 (wrap64 (-t367)), .int .i64 t368] ?_; (with_reducible refine (impl_TurnBy.calls kj5 (wrap64 (-t366)) (wrap64 (-t367)) t368 t383 t384 t385 t386 true _ A74.out).mono ?_); rintro e w227 ⟨rfl, hb⟩; refine ⟨_, rfl, ?_⟩; replace BK374 := bb (bk BK374) hb; replace BK375 := bb (bk BK375) hb; replace BK381 := bb (bk BK381) hb; replace BK382 := bb (bk BK382) hb; replace HB := hbb (hs_ HB) hb; clear hb) | ((with_reducible refine gate_dst (N := 12) rfl ?_); refine bE 12 #[.int .i64 0, .int .i64 0] 23 ?_; intro gb388 hg w228 hbox hb; have BK388 := Aside0.mk (hbox); have GE388 := gw hg (hs_ HB); have GW388 := GE388; have NB374_388 := nl hg (bk BK374); have NB388_374 := ng hg (bk BK374); have NB375_388 := nl hg (bk BK375); have NB388_375 := ng hg (bk BK375); have NB381_388 := nl hg (bk BK381); have NB388_381 := ng hg (bk BK381); have NB382_388 := nl hg (bk BK382); have NB388_382 := ng hg (bk BK382); replace BK374 := bb (bk BK374) hb; replace BK375 := bb (bk BK375) hb; replace BK381 := bb (bk BK381) hb; replace BK382 := bb (bk BK382) hb; replace HB := hbb (hs_ HB) hb; clear hb hbox hg) | ((with_reducible refine gate_dst (N := 13) rfl ?_); refine bE 13 #[.int .i64 0, .int .i64 0] 23 ?_; intro gb389 hg w229 hbox hb; have BK389 := Aside0.mk (hbox); have GE389 := gw hg (hs_ HB); have GW389 := GE389; have NB374_389 := nl hg (bk BK374); have NB389_374 := ng hg (bk BK374); have NB375_389 := nl hg (bk BK375); have NB389_375 := ng hg (bk BK375); have NB381_389 := nl hg (bk BK381); have NB389_381 := ng hg (bk BK381); have NB382_389 := nl hg (bk BK382); have NB389_382 := ng hg (bk BK382); have NB388_389 := nl hg (bk BK388); have NB389_388 := ng hg (bk BK388); replace BK374 := bb (bk BK374) hb; replace BK375 := bb (bk BK375) hb; replace BK381 := bb (bk BK381) hb; replace BK382 := bb (bk BK382) hb; replace BK388 := bb (bk BK388) hb; replace HB := hbb (hs_ HB) hb; clear hb hbox hg; have hnb230 := NB388_374.out; have hnc230 := NB374_388.out; have hnb231 := NB388_375.out; have hnc231 := NB375_388.out; have hnb232 := NB388_381.out; have hnc232 := NB381_388.out; have hnb233 := NB388_382.out; have hnc233 := NB382_388.out; have hnb234 := NB388_389.out; have hnc234 := NB389_388.out; obtain ⟨hcz235_0, hcz235_1, hfz235_0, hfz235_1⟩ := cz2 BK388; have hnb236 := NB389_374.out; have hnc236 := NB374_389.out; have hnb237 := NB389_375.out; have hnc237 := NB375_389.out; have hnb238 := NB389_381.out; have hnc238 := NB381_389.out; have hnb239 := NB389_382.out; have hnc239 := NB382_389.out; obtain ⟨hcz240_0, hcz240_1, hfz240_0, hfz240_1⟩ := cz2 BK389) | ((with_reducible refine gate_callee (f := 16) rfl ?_); refine gL 88 Try.func16 #[.int .i64 t366, .int .i64 t367, .int .i64 (wrap64 (t368 + 129600000))] ?_; (with_reducible refine (impl_TurnBy.calls kj5 t366 t367 (wrap64 (t368 + 129600000)) t390 t391 t392 t393 t394 _ A75.out).mono ?_); rintro e w241 ⟨rfl, hb⟩; refine ⟨_, rfl, ?_⟩; replace BK374 := bb (bk2 BK374 NB374_389 NB374_388) hb; replace BK375 := bb (bk2 BK375 NB375_389 NB375_388) hb; replace BK381 := bb (bk2 BK381 NB381_389 NB381_388) hb; replace BK382 := bb (bk2 BK382 NB382_389 NB382_388) hb; replace BK388 := bb (o := .cells #[.int .i64 t383, .int .i64 t384] 23 (0, 0)) (bkp BK388) hb; replace BK389 := bb (o := .cells #[.int .i64 t385, .int .i64 t386] 23 (0, 0)) (bkp BK389) hb; replace HB := hbb (hs_ HB) hb; clear hb) | ((with_reducible refine gate_dst (N := 15) rfl ?_); refine bE 15 #[.int .i64 0, .int .i64 0] 23 ?_; intro gb395 hg w242 hbox hb; have BK395 := Aside0.mk (hbox); have GE395 := gw hg (hs_ HB); have GW395 := GE395; have NB374_395 := nl hg (bk BK374); have NB395_374 := ng hg (bk BK374); have NB375_395 := nl hg (bk BK375); have NB395_375 := ng hg (bk BK375); have NB381_395 := nl hg (bk BK381); have NB395_381 := ng hg (bk BK381); have NB382_395 := nl hg (bk BK382); have NB395_382 := ng hg (bk BK382); have NB388_395 := nl hg (bk BK388); have NB395_388 := ng hg (bk BK388); have NB389_395 := nl hg (bk BK389); have NB395_389 := ng hg (bk BK389); replace BK374 := bb (bk BK374) hb; replace BK375 := bb (bk BK375) hb; replace BK381 := bb (bk BK381) hb; replace BK382 := bb (bk BK382) hb; replace BK388 := bb (bk BK388) hb; replace BK389 := bb (bk BK389) hb; replace HB := hbb (hs_ HB) hb; clear hb hbox hg) | ((with_reducible refine gate_dst (N := 16) rfl ?_); refine bE 16 #[.int .i64 0, .int .i64 0] 23 ?_; intro gb396 hg w243 hbox hb; have BK396 := Aside0.mk (hbox); have GE396 := gw hg (hs_ HB); have GW396 := GE396; have NB374_396 := nl hg (bk BK374); have NB396_374 := ng hg (bk BK374); have NB375_396 := nl hg (bk BK375); have NB396_375 := ng hg (bk BK375); have NB381_396 := nl hg (bk BK381); have NB396_381 := ng hg (bk BK381); have NB382_396 := nl hg (bk BK382); have NB396_382 := ng hg (bk BK382); have NB388_396 := nl hg (bk BK388); have NB396_388 := ng hg (bk BK388); have NB389_396 := nl hg (bk BK389); have NB396_389 := ng hg (bk BK389); have NB395_396 := nl hg (bk BK395); have NB396_395 := ng hg (bk BK395); replace BK374 := bb (bk BK374) hb; replace BK375 := bb (bk BK375) hb; replace BK381 := bb (bk BK381) hb; replace BK382 := bb (bk BK382) hb; replace BK388 := bb (bk BK388) hb; replace BK389 := bb (bk BK389) hb; replace BK395 := bb (bk BK395) hb; replace HB := hbb (hs_ HB) hb; clear hb hbox hg; have hnb244 := NB395_374.out; have hnc244 := NB374_395.out; have hnb245 := NB395_375.out; have hnc245 := NB375_395.out; have hnb246 := NB395_381.out; have hnc246 := NB381_395.out; have hnb247 := NB395_382.out; have hnc247 := NB382_395.out; have hnb248 := NB395_388.out; have hnc248 := NB388_395.out; have hnb249 := NB395_389.out; have hnc249 := NB389_395.out; have hnb250 := NB395_396.out; have hnc250 := NB396_395.out; obtain ⟨hcz251_0, hcz251_1, hfz251_0, hfz251_1⟩ := cz2 BK395; have hnb252 := NB396_374.out; have hnc252 := NB374_396.out; have hnb253 := NB396_375.out; have hnc253 := NB375_396.out; have hnb254 := NB396_381.out; have hnc254 := NB381_396.out; have hnb255 := NB396_382.out; have hnc255 := NB382_396.out; have hnb256 := NB396_388.out; have hnc256 := NB388_396.out; have hnb257 := NB396_389.out; have hnc257 := NB389_396.out; obtain ⟨hcz258_0, hcz258_1, hfz258_0, hfz258_1⟩ := cz2 BK396))
       have n0_ : Aside0 (((((w243.setCell ⟨gb395, 0, none⟩ (.int .i64 t390)).setCell ⟨gb395, 1, none⟩ (.int .i64 t391)).setCell ⟨gb396, 0, none⟩ (.int .i64 t392)).setCell ⟨gb396, 1, none⟩ (.int .i64 t393)).heap[gb374]? = some (.cells #[.int .i64 t369, .int .i64 t370] 23 (0, 0))) := ⟨bk2 BK374 NB374_396 NB374_395⟩
       have n1_ : Aside0 (((((w243.setCell ⟨gb395, 0, none⟩ (.int .i64 t390)).setCell ⟨gb395, 1, none⟩ (.int .i64 t391)).setCell ⟨gb396, 0, none⟩ (.int .i64 t392)).setCell ⟨gb396, 1, none⟩ (.int .i64 t393)).heap[gb375]? = some (.cells #[.int .i64 t371, .int .i64 t372] 23 (0, 0))) := ⟨bk2 BK375 NB375_396 NB375_395⟩
       have n2_ : Aside0 (((((w243.setCell ⟨gb395, 0, none⟩ (.int .i64 t390)).setCell ⟨gb395, 1, none⟩ (.int .i64 t391)).setCell ⟨gb396, 0, none⟩ (.int .i64 t392)).setCell ⟨gb396, 1, none⟩ (.int .i64 t393)).heap[gb381]? = some (.cells #[.int .i64 t376, .int .i64 t377] 23 (0, 0))) := ⟨bk2 BK381 NB381_396 NB381_395⟩
       have n3_ : Aside0 (((((w243.setCell ⟨gb395, 0, none⟩ (.int .i64 t390)).setCell ⟨gb395, 1, none⟩ (.int .i64 t391)).setCell ⟨gb396, 0, none⟩ (.int .i64 t392)).setCell ⟨gb396, 1, none⟩ (.int .i64 t393)).heap[gb382]? = some (.cells #[.int .i64 t378, .int .i64 t379] 23 (0, 0))) := ⟨bk2 BK382 NB382_396 NB382_395⟩
       have n4_ : Aside0 (((((w243.setCell ⟨gb395, 0, none⟩ (.int .i64 t390)).setCell ⟨gb395, 1, none⟩ (.int .i64 t391)).setCell ⟨gb396, 0, none⟩ (.int .i64 t392)).setCell ⟨gb396, 1, none⟩ (.int .i64 t393)).heap[gb388]? = some (.cells #[.int .i64 t383, .int .i64 t384] 23 (0, 0))) := ⟨bk2 BK388 NB388_396 NB388_395⟩
       have n5_ : Aside0 (((((w243.setCell ⟨gb395, 0, none⟩ (.int .i64 t390)).setCell ⟨gb395, 1, none⟩ (.int .i64 t391)).setCell ⟨gb396, 0, none⟩ (.int .i64 t392)).setCell ⟨gb396, 1, none⟩ (.int .i64 t393)).heap[gb389]? = some (.cells #[.int .i64 t385, .int .i64 t386] 23 (0, 0))) := ⟨bk2 BK389 NB389_396 NB389_395⟩
       have n6_ : Aside0 (((((w243.setCell ⟨gb395, 0, none⟩ (.int .i64 t390)).setCell ⟨gb395, 1, none⟩ (.int .i64 t391)).setCell ⟨gb396, 0, none⟩ (.int .i64 t392)).setCell ⟨gb396, 1, none⟩ (.int .i64 t393)).heap[gb395]? = some (.cells #[.int .i64 t390, .int .i64 t391] 23 (0, 0))) := ⟨bkp BK395⟩
       have n7_ : Aside0 (((((w243.setCell ⟨gb395, 0, none⟩ (.int .i64 t390)).setCell ⟨gb395, 1, none⟩ (.int .i64 t391)).setCell ⟨gb396, 0, none⟩ (.int .i64 t392)).setCell ⟨gb396, 1, none⟩ (.int .i64 t393)).heap[gb396]? = some (.cells #[.int .i64 t392, .int .i64 t393] 23 (0, 0))) := ⟨bkp BK396⟩
       have n8_ : Aside0 (Below w.heap.size w ((((w243.setCell ⟨gb395, 0, none⟩ (.int .i64 t390)).setCell ⟨gb395, 1, none⟩ (.int .i64 t391)).setCell ⟨gb396, 0, none⟩ (.int .i64 t392)).setCell ⟨gb396, 1, none⟩ (.int .i64 t393))) := ⟨hs_ HB⟩
       (try clear BK374)
       (try clear BK375)
       (try clear BK381)
       (try clear BK382)
       (try clear BK388)
       (try clear BK389)
       (try clear BK395)
       (try clear BK396)
       (try clear HB)
       generalize ((((w243.setCell ⟨gb395, 0, none⟩ (.int .i64 t390)).setCell ⟨gb395, 1, none⟩ (.int .i64 t391)).setCell ⟨gb396, 0, none⟩ (.int .i64 t392)).setCell ⟨gb396, 1, none⟩ (.int .i64 t393)) = w259 at n0_ n1_ n2_ n3_ n4_ n5_ n6_ n7_ n8_ ⊢
       have BK374 := n0_
       have BK375 := n1_
       have BK381 := n2_
       have BK382 := n3_
       have BK388 := n4_
       have BK389 := n5_
       have BK395 := n6_
       have BK396 := n7_
       have HB := n8_
       clear n0_ n1_ n2_ n3_ n4_ n5_ n6_ n7_ n8_
       replace BK374 := Aside0.mk (blk_drew BK374.out)
       replace BK375 := Aside0.mk (blk_drew BK375.out)
       replace BK381 := Aside0.mk (blk_drew BK381.out)
       replace BK382 := Aside0.mk (blk_drew BK382.out)
       replace BK388 := Aside0.mk (blk_drew BK388.out)
       replace BK389 := Aside0.mk (blk_drew BK389.out)
       replace BK395 := Aside0.mk (blk_drew BK395.out)
       replace BK396 := Aside0.mk (blk_drew BK396.out)
       replace HB := Aside0.mk (below_drew1 HB.out)
       refine start_ (n := 28) (S := fun w' => w'.cell? ⟨gb388, 0, none⟩ = some (.int .i64 t383) ∧ w'.cell? ⟨gb388, 1, none⟩ = some (.int .i64 t384) ∧ w'.cell? ⟨gb381, 0, none⟩ = some (.int .i64 t376) ∧ w'.cell? ⟨gb381, 1, none⟩ = some (.int .i64 t377)) (ds := []) #[false, false, false, false, false, false, false, false, false, false, false, false, false, false, false, false, false, false, false, false, false, false, false, false, false, false, false, false] (by kernel_rfl) rfl rfl ⟨(blk_cell BK388.out 0).trans rfl, (blk_cell BK388.out 1).trans rfl, (blk_cell BK381.out 0).trans rfl, (blk_cell BK381.out 1).trans rfl⟩ (fun hHeld => ?_); refine with_tabW laws_FnTurnNeg.tab10 laws_FnTurnNeg.bits10 (fun HT_ HW_ => ?_)
       generalize w259.drew = w260 at BK374 BK375 BK381 BK382 BK388 BK389 BK395 BK396 HB hHeld ⊢
       refine pure_ (i := 0) (N := some 92) (v := ?_) (a' := ?_) #[true, false, false, false, false, false, false, false, false, false, false, false, false, false, false, false, false, false, false, false, false, false, false, false, false, false, false, false] rfl rfl (any_of HT_.out (by kernel_rfl)) (fun _ _ _ h => h) (Or.inl ⟨by rfl, ?_⟩) ?_ ?_
       rotate_left
       ·intro w'
        go_simp
        with_reducible rfl
       rotate_left
       ·simp only [Act.put, List.setIfInBounds_toArray, List.set_cons_zero, List.set_cons_succ, i64_w, i32_w]
        rfl
       refine pure_ (i := 1) (N := some 93) (v := ?_) (a' := ?_) #[true, true, false, false, false, false, false, false, false, false, false, false, false, false, false, false, false, false, false, false, false, false, false, false, false, false, false, false] rfl rfl (any_of HT_.out (by kernel_rfl)) (fun _ _ _ h => h) (Or.inl ⟨by rfl, ?_⟩) ?_ ?_
       rotate_left
       ·intro w'
        go_simp
        with_reducible rfl
       rotate_left
       ·simp only [Act.put, List.setIfInBounds_toArray, List.set_cons_zero, List.set_cons_succ, i64_w, i32_w]
        rfl
       refine take_ (i := 2) (N := some 94) (v := ?_) (a' := ?_) #[true, true, true, false, false, false, false, false, false, false, false, false, false, false, false, false, false, false, false, false, false, false, false, false, false, false, false, false] rfl rfl (take_ofW HT_.out HW_.out (by kernel_rfl)) (fun _ _ _ h => h) (Or.inl ⟨by rfl, ?_⟩) hHeld ?_ ?_
       rotate_left
       ·rintro w' ⟨s0, s1, s2, s3⟩
        go_simp
        with_reducible rfl
       rotate_left
       ·simp only [Act.put, List.setIfInBounds_toArray, List.set_cons_zero, List.set_cons_succ, i64_w, i32_w]
        rfl
       refine take_ (i := 3) (N := some 95) (v := ?_) (a' := ?_) #[true, true, true, true, false, false, false, false, false, false, false, false, false, false, false, false, false, false, false, false, false, false, false, false, false, false, false, false] rfl rfl (take_ofW HT_.out HW_.out (by kernel_rfl)) (fun _ _ _ h => h) (Or.inl ⟨by rfl, ?_⟩) hHeld ?_ ?_
       rotate_left
       ·rintro w' ⟨s0, s1, s2, s3⟩
        go_simp
        with_reducible rfl
       rotate_left
       ·simp only [Act.put, List.setIfInBounds_toArray, List.set_cons_zero, List.set_cons_succ, i64_w, i32_w]
        rfl
       refine one_ (i := 4) (N := some 96) #[true, true, true, true, true, false, false, false, false, false, false, false, false, false, false, false, false, false, false, false, false, false, false, false, false, false, false, false] rfl rfl (one_of HT_.out (by kernel_rfl)) (by decide) (fun K hK => ?_)
       refine gS Try.func27 #[.agg #[.int .i64 t376, .int .i64 t377]] ?_
       with_reducible refine (impl_SpanNeg.calls t376 t377 t397 t398 _ A77.out).mono ?_
       rintro e w261 ⟨rfl, hb⟩
       refine ⟨_, rfl, ?_⟩
       replace BK374 := bb (bk BK374) hb
       replace BK375 := bb (bk BK375) hb
       replace BK381 := bb (bk BK381) hb
       replace BK382 := bb (bk BK382) hb
       replace BK388 := bb (bk BK388) hb
       replace BK389 := bb (bk BK389) hb
       replace BK395 := bb (bk BK395) hb
       replace BK396 := bb (bk BK396) hb
       replace HB := hbb (hs_ HB) hb
       clear hb
       refine hK.out _ _ ⟨(blk_cell BK388.out 0).trans rfl, (blk_cell BK388.out 1).trans rfl, (blk_cell BK381.out 0).trans rfl, (blk_cell BK381.out 1).trans rfl⟩ (fun hHeld => ?_)
       clear hK K
       refine norm_ (a' := ?_) ?_ ?_
       rotate_left
       ·show Act.put _ (some 96) _ = _
        simp only [Act.put, List.setIfInBounds_toArray, List.set_cons_zero, List.set_cons_succ, i64_w, i32_w]
        rfl
       refine pure_ (i := 5) (N := some 97) (v := ?_) (a' := ?_) #[true, true, true, true, true, true, false, false, false, false, false, false, false, false, false, false, false, false, false, false, false, false, false, false, false, false, false, false] rfl rfl (any_of HT_.out (by kernel_rfl)) (fun _ _ _ h => h) (Or.inl ⟨by rfl, ?_⟩) ?_ ?_
       rotate_left
       ·intro w'
        go_simp
        with_reducible rfl
       rotate_left
       ·simp only [Act.put, List.setIfInBounds_toArray, List.set_cons_zero, List.set_cons_succ, i64_w, i32_w]
        rfl
       refine pure_ (i := 6) (N := some 98) (v := ?_) (a' := ?_) #[true, true, true, true, true, true, true, false, false, false, false, false, false, false, false, false, false, false, false, false, false, false, false, false, false, false, false, false] rfl rfl (any_of HT_.out (by kernel_rfl)) (fun _ _ _ h => h) (Or.inl ⟨by rfl, ?_⟩) ?_ ?_
       rotate_left
       ·intro w'
        go_simp
        with_reducible rfl
       rotate_left
       ·simp only [Act.put, List.setIfInBounds_toArray, List.set_cons_zero, List.set_cons_succ, i64_w, i32_w]
        rfl
       refine pure_ (i := 7) (N := some 99) (v := ?_) (a' := ?_) #[true, true, true, true, true, true, true, true, false, false, false, false, false, false, false, false, false, false, false, false, false, false, false, false, false, false, false, false] rfl rfl (any_of HT_.out (by kernel_rfl)) (fun _ _ _ h => h) (Or.inl ⟨by rfl, ?_⟩) ?_ ?_
       rotate_left
       ·intro w'
        go_simp
        with_reducible rfl
       rotate_left
       ·simp only [Act.put, List.setIfInBounds_toArray, List.set_cons_zero, List.set_cons_succ, i64_w, i32_w]
        rfl
       refine pure_ (i := 8) (N := some 100) (v := undef) (a' := ?_) #[true, true, true, true, true, true, true, true, true, false, false, false, false, false, false, false, false, false, false, false, false, false, false, false, false, false, false, false] rfl rfl (any_of HT_.out (by kernel_rfl)) (fun _ _ _ h => h) (Or.inr ⟨by rfl, rfl⟩) ?_ ?_
       rotate_left
       ·simp only [Act.put, List.setIfInBounds_toArray, List.set_cons_zero, List.set_cons_succ, i64_w, i32_w]
        rfl
       refine pure_ (i := 9) (N := some 101) (v := undef) (a' := ?_) #[true, true, true, true, true, true, true, true, true, true, false, false, false, false, false, false, false, false, false, false, false, false, false, false, false, false, false, false] rfl rfl (any_of HT_.out (by kernel_rfl)) (fun _ _ _ h => h) (Or.inr ⟨by rfl, rfl⟩) ?_ ?_
       rotate_left
       ·simp only [Act.put, List.setIfInBounds_toArray, List.set_cons_zero, List.set_cons_succ, i64_w, i32_w]
        rfl
       refine pure_ (i := 10) (N := some 102) (v := undef) (a' := ?_) #[true, true, true, true, true, true, true, true, true, true, true, false, false, false, false, false, false, false, false, false, false, false, false, false, false, false, false, false] rfl rfl (any_of HT_.out (by kernel_rfl)) (fun _ _ _ h => h) (Or.inr ⟨by rfl, rfl⟩) ?_ ?_
       rotate_left
       ·simp only [Act.put, List.setIfInBounds_toArray, List.set_cons_zero, List.set_cons_succ, i64_w, i32_w]
        rfl
       refine pure_ (i := 11) (N := some 103) (v := undef) (a' := ?_) #[true, true, true, true, true, true, true, true, true, true, true, true, false, false, false, false, false, false, false, false, false, false, false, false, false, false, false, false] rfl rfl (any_of HT_.out (by kernel_rfl)) (fun _ _ _ h => h) (Or.inr ⟨by rfl, rfl⟩) ?_ ?_
       rotate_left
       ·simp only [Act.put, List.setIfInBounds_toArray, List.set_cons_zero, List.set_cons_succ, i64_w, i32_w]
        rfl
       refine pure_ (i := 12) (N := some 104) (v := ?_) (a' := ?_) #[true, true, true, true, true, true, true, true, true, true, true, true, true, false, false, false, false, false, false, false, false, false, false, false, false, false, false, false] rfl rfl (any_of HT_.out (by kernel_rfl)) (fun _ _ _ h => h) (Or.inl ⟨by rfl, ?_⟩) ?_ ?_
       rotate_left
       ·intro w'
        go_simp
        with_reducible rfl
       rotate_left
       ·simp only [Act.put, List.setIfInBounds_toArray, List.set_cons_zero, List.set_cons_succ, i64_w, i32_w]
        rfl
       refine pure_ (i := 13) (N := some 105) (v := ?_) (a' := ?_) #[true, true, true, true, true, true, true, true, true, true, true, true, true, true, false, false, false, false, false, false, false, false, false, false, false, false, false, false] rfl rfl (any_of HT_.out (by kernel_rfl)) (fun _ _ _ h => h) (Or.inl ⟨by rfl, ?_⟩) ?_ ?_
       rotate_left
       ·intro w'
        go_simp
        with_reducible rfl
       rotate_left
       ·simp only [Act.put, List.setIfInBounds_toArray, List.set_cons_zero, List.set_cons_succ, i64_w, i32_w]
        rfl
       refine pure_ (i := 14) (N := some 106) (v := undef) (a' := ?_) #[true, true, true, true, true, true, true, true, true, true, true, true, true, true, true, false, false, false, false, false, false, false, false, false, false, false, false, false] rfl rfl (any_of HT_.out (by kernel_rfl)) (fun _ _ _ h => h) (Or.inr ⟨by rfl, rfl⟩) ?_ ?_
       rotate_left
       ·simp only [Act.put, List.setIfInBounds_toArray, List.set_cons_zero, List.set_cons_succ, i64_w, i32_w]
        rfl
       refine pure_ (i := 15) (N := some 107) (v := undef) (a' := ?_) #[true, true, true, true, true, true, true, true, true, true, true, true, true, true, true, true, false, false, false, false, false, false, false, false, false, false, false, false] rfl rfl (any_of HT_.out (by kernel_rfl)) (fun _ _ _ h => h) (Or.inr ⟨by rfl, rfl⟩) ?_ ?_
       rotate_left
       ·simp only [Act.put, List.setIfInBounds_toArray, List.set_cons_zero, List.set_cons_succ, i64_w, i32_w]
        rfl
       refine pure_ (i := 16) (N := some 108) (v := undef) (a' := ?_) #[true, true, true, true, true, true, true, true, true, true, true, true, true, true, true, true, true, false, false, false, false, false, false, false, false, false, false, false] rfl rfl (any_of HT_.out (by kernel_rfl)) (fun _ _ _ h => h) (Or.inr ⟨by rfl, rfl⟩) ?_ ?_
       rotate_left
       ·simp only [Act.put, List.setIfInBounds_toArray, List.set_cons_zero, List.set_cons_succ, i64_w, i32_w]
        rfl
       refine pure_ (i := 17) (N := some 109) (v := undef) (a' := ?_) #[true, true, true, true, true, true, true, true, true, true, true, true, true, true, true, true, true, true, false, false, false, false, false, false, false, false, false, false] rfl rfl (any_of HT_.out (by kernel_rfl)) (fun _ _ _ h => h) (Or.inr ⟨by rfl, rfl⟩) ?_ ?_
       rotate_left
       ·simp only [Act.put, List.setIfInBounds_toArray, List.set_cons_zero, List.set_cons_succ, i64_w, i32_w]
        rfl
       refine pure_ (i := 18) (N := some 110) (v := undef) (a' := ?_) #[true, true, true, true, true, true, true, true, true, true, true, true, true, true, true, true, true, true, true, false, false, false, false, false, false, false, false, false] rfl rfl (any_of HT_.out (by kernel_rfl)) (fun _ _ _ h => h) (Or.inr ⟨by rfl, rfl⟩) ?_ ?_
       rotate_left
       ·simp only [Act.put, List.setIfInBounds_toArray, List.set_cons_zero, List.set_cons_succ, i64_w, i32_w]
        rfl
       refine pure_ (i := 19) (N := some 111) (v := undef) (a' := ?_) #[true, true, true, true, true, true, true, true, true, true, true, true, true, true, true, true, true, true, true, true, false, false, false, false, false, false, false, false] rfl rfl (any_of HT_.out (by kernel_rfl)) (fun _ _ _ h => h) (Or.inr ⟨by rfl, rfl⟩) ?_ ?_
       rotate_left
       ·simp only [Act.put, List.setIfInBounds_toArray, List.set_cons_zero, List.set_cons_succ, i64_w, i32_w]
        rfl
       refine pure_ (i := 20) (N := some 112) (v := undef) (a' := ?_) #[true, true, true, true, true, true, true, true, true, true, true, true, true, true, true, true, true, true, true, true, true, false, false, false, false, false, false, false] rfl rfl (any_of HT_.out (by kernel_rfl)) (fun _ _ _ h => h) (Or.inr ⟨by rfl, rfl⟩) ?_ ?_
       rotate_left
       ·simp only [Act.put, List.setIfInBounds_toArray, List.set_cons_zero, List.set_cons_succ, i64_w, i32_w]
        rfl
       refine pure_ (i := 21) (N := some 113) (v := undef) (a' := ?_) #[true, true, true, true, true, true, true, true, true, true, true, true, true, true, true, true, true, true, true, true, true, true, false, false, false, false, false, false] rfl rfl (any_of HT_.out (by kernel_rfl)) (fun _ _ _ h => h) (Or.inr ⟨by rfl, rfl⟩) ?_ ?_
       rotate_left
       ·simp only [Act.put, List.setIfInBounds_toArray, List.set_cons_zero, List.set_cons_succ, i64_w, i32_w]
        rfl
       refine pure_ (i := 22) (N := some 114) (v := undef) (a' := ?_) #[true, true, true, true, true, true, true, true, true, true, true, true, true, true, true, true, true, true, true, true, true, true, true, false, false, false, false, false] rfl rfl (any_of HT_.out (by kernel_rfl)) (fun _ _ _ h => h) (Or.inr ⟨by rfl, rfl⟩) ?_ ?_
       rotate_left
       ·simp only [Act.put, List.setIfInBounds_toArray, List.set_cons_zero, List.set_cons_succ, i64_w, i32_w]
        rfl
       refine pure_ (i := 23) (N := some 115) (v := undef) (a' := ?_) #[true, true, true, true, true, true, true, true, true, true, true, true, true, true, true, true, true, true, true, true, true, true, true, true, false, false, false, false] rfl rfl (any_of HT_.out (by kernel_rfl)) (fun _ _ _ h => h) (Or.inr ⟨by rfl, rfl⟩) ?_ ?_
       rotate_left
       ·simp only [Act.put, List.setIfInBounds_toArray, List.set_cons_zero, List.set_cons_succ, i64_w, i32_w]
        rfl
       refine pure_ (i := 24) (N := some 116) (v := undef) (a' := ?_) #[true, true, true, true, true, true, true, true, true, true, true, true, true, true, true, true, true, true, true, true, true, true, true, true, true, false, false, false] rfl rfl (any_of HT_.out (by kernel_rfl)) (fun _ _ _ h => h) (Or.inr ⟨by rfl, rfl⟩) ?_ ?_
       rotate_left
       ·simp only [Act.put, List.setIfInBounds_toArray, List.set_cons_zero, List.set_cons_succ, i64_w, i32_w]
        rfl
       refine pure_ (i := 25) (N := some 117) (v := undef) (a' := ?_) #[true, true, true, true, true, true, true, true, true, true, true, true, true, true, true, true, true, true, true, true, true, true, true, true, true, true, false, false] rfl rfl (any_of HT_.out (by kernel_rfl)) (fun _ _ _ h => h) (Or.inr ⟨by rfl, rfl⟩) ?_ ?_
       rotate_left
       ·simp only [Act.put, List.setIfInBounds_toArray, List.set_cons_zero, List.set_cons_succ, i64_w, i32_w]
        rfl
       refine pure_ (i := 26) (N := some 118) (v := ?_) (a' := ?_) #[true, true, true, true, true, true, true, true, true, true, true, true, true, true, true, true, true, true, true, true, true, true, true, true, true, true, true, false] rfl rfl (any_of HT_.out (by kernel_rfl)) (fun _ _ _ h => h) (Or.inl ⟨by rfl, ?_⟩) ?_ ?_
       rotate_left
       ·intro w'
        go_simp
        with_reducible rfl
       rotate_left
       ·simp only [Act.put, List.setIfInBounds_toArray, List.set_cons_zero, List.set_cons_succ, i64_w, i32_w]
        rfl
       refine pure_ (i := 27) (N := some 2) (v := ?_) (a' := ?_) #[true, true, true, true, true, true, true, true, true, true, true, true, true, true, true, true, true, true, true, true, true, true, true, true, true, true, true, true] rfl rfl (any_of HT_.out (by kernel_rfl)) (fun _ _ _ h => h) (Or.inl ⟨by rfl, ?_⟩) ?_ ?_
       rotate_left
       ·intro w'
        go_simp
        with_reducible rfl
       rotate_left
       ·simp only [Act.put, List.setIfInBounds_toArray, List.set_cons_zero, List.set_cons_succ, i64_w, i32_w]
        rfl
       refine done_ (done_of HT_.out (by kernel_rfl)) ?_
       try go_wp2
       go_ret
       exact ⟨by first | rfl | (simp [errW_none, errW_some] <;> rfl) | (simp [*, errW_none, errW_some] <;> rfl), hs_ HB⟩
     ·replace c76 := Bool.eq_false_iff.mpr c76
      subst c76
      have H1 : (some false) = some r := by rw [if_neg (show ¬ (false = true) by decide)] at H; exact H
      clear H
      have H := H1
      clear H1
      obtain rfl := Option.some.inj H
      try go_wp2_with (first | ((with_reducible refine gate_callee (f := 16) rfl ?_); refine gL 79 Try.func16 #[.int .i64 (wrap64 (-t366)), .int .i64 (wrap64 (-t367)), .int .i64 t368] ?_; (with_reducible refine (impl_TurnBy.calls kj5 (wrap64 (-t366)) (wrap64 (-t367)) t368 t383 t384 t385 t386 false _ A74.out).mono ?_); rintro e w262 ⟨rfl, hb⟩; refine ⟨_, rfl, ?_⟩; replace BK374 := bb (bk BK374) hb; replace BK375 := bb (bk BK375) hb; replace BK381 := bb (bk BK381) hb; replace BK382 := bb (bk BK382) hb; replace HB := hbb (hs_ HB) hb; clear hb) | ((with_reducible refine gate_dst (N := 12) rfl ?_); refine bE 12 #[.int .i64 0, .int .i64 0] 23 ?_; intro gb388 hg w263 hbox hb; have BK388 := Aside0.mk (hbox); have GE388 := gw hg (hs_ HB); have GW388 := GE388; have NB374_388 := nl hg (bk BK374); have NB388_374 := ng hg (bk BK374); have NB375_388 := nl hg (bk BK375); have NB388_375 := ng hg (bk BK375); have NB381_388 := nl hg (bk BK381); have NB388_381 := ng hg (bk BK381); have NB382_388 := nl hg (bk BK382); have NB388_382 := ng hg (bk BK382); replace BK374 := bb (bk BK374) hb; replace BK375 := bb (bk BK375) hb; replace BK381 := bb (bk BK381) hb; replace BK382 := bb (bk BK382) hb; replace HB := hbb (hs_ HB) hb; clear hb hbox hg) | ((with_reducible refine gate_dst (N := 13) rfl ?_); refine bE 13 #[.int .i64 0, .int .i64 0] 23 ?_; intro gb389 hg w264 hbox hb; have BK389 := Aside0.mk (hbox); have GE389 := gw hg (hs_ HB); have GW389 := GE389; have NB374_389 := nl hg (bk BK374); have NB389_374 := ng hg (bk BK374); have NB375_389 := nl hg (bk BK375); have NB389_375 := ng hg (bk BK375); have NB381_389 := nl hg (bk BK381); have NB389_381 := ng hg (bk BK381); have NB382_389 := nl hg (bk BK382); have NB389_382 := ng hg (bk BK382); have NB388_389 := nl hg (bk BK388); have NB389_388 := ng hg (bk BK388); replace BK374 := bb (bk BK374) hb; replace BK375 := bb (bk BK375) hb; replace BK381 := bb (bk BK381) hb; replace BK382 := bb (bk BK382) hb; replace BK388 := bb (bk BK388) hb; replace HB := hbb (hs_ HB) hb; clear hb hbox hg; have hnb265 := NB388_374.out; have hnc265 := NB374_388.out; have hnb266 := NB388_375.out; have hnc266 := NB375_388.out; have hnb267 := NB388_381.out; have hnc267 := NB381_388.out; have hnb268 := NB388_382.out; have hnc268 := NB382_388.out; have hnb269 := NB388_389.out; have hnc269 := NB389_388.out; obtain ⟨hcz270_0, hcz270_1, hfz270_0, hfz270_1⟩ := cz2 BK388; have hnb271 := NB389_374.out; have hnc271 := NB374_389.out; have hnb272 := NB389_375.out; have hnc272 := NB375_389.out; have hnb273 := NB389_381.out; have hnc273 := NB381_389.out; have hnb274 := NB389_382.out; have hnc274 := NB382_389.out; obtain ⟨hcz275_0, hcz275_1, hfz275_0, hfz275_1⟩ := cz2 BK389) | ((with_reducible refine gate_callee (f := 16) rfl ?_); refine gL 88 Try.func16 #[.int .i64 t366, .int .i64 t367, .int .i64 (wrap64 (t368 + 129600000))] ?_; (with_reducible refine (impl_TurnBy.calls kj5 t366 t367 (wrap64 (t368 + 129600000)) t390 t391 t392 t393 t394 _ A75.out).mono ?_); rintro e w276 ⟨rfl, hb⟩; refine ⟨_, rfl, ?_⟩; replace BK374 := bb (bk2 BK374 NB374_389 NB374_388) hb; replace BK375 := bb (bk2 BK375 NB375_389 NB375_388) hb; replace BK381 := bb (bk2 BK381 NB381_389 NB381_388) hb; replace BK382 := bb (bk2 BK382 NB382_389 NB382_388) hb; replace BK388 := bb (o := .cells #[.int .i64 t383, .int .i64 t384] 23 (0, 0)) (bkp BK388) hb; replace BK389 := bb (o := .cells #[.int .i64 t385, .int .i64 t386] 23 (0, 0)) (bkp BK389) hb; replace HB := hbb (hs_ HB) hb; clear hb) | ((with_reducible refine gate_dst (N := 15) rfl ?_); refine bE 15 #[.int .i64 0, .int .i64 0] 23 ?_; intro gb395 hg w277 hbox hb; have BK395 := Aside0.mk (hbox); have GE395 := gw hg (hs_ HB); have GW395 := GE395; have NB374_395 := nl hg (bk BK374); have NB395_374 := ng hg (bk BK374); have NB375_395 := nl hg (bk BK375); have NB395_375 := ng hg (bk BK375); have NB381_395 := nl hg (bk BK381); have NB395_381 := ng hg (bk BK381); have NB382_395 := nl hg (bk BK382); have NB395_382 := ng hg (bk BK382); have NB388_395 := nl hg (bk BK388); have NB395_388 := ng hg (bk BK388); have NB389_395 := nl hg (bk BK389); have NB395_389 := ng hg (bk BK389); replace BK374 := bb (bk BK374) hb; replace BK375 := bb (bk BK375) hb; replace BK381 := bb (bk BK381) hb; replace BK382 := bb (bk BK382) hb; replace BK388 := bb (bk BK388) hb; replace BK389 := bb (bk BK389) hb; replace HB := hbb (hs_ HB) hb; clear hb hbox hg) | ((with_reducible refine gate_dst (N := 16) rfl ?_); refine bE 16 #[.int .i64 0, .int .i64 0] 23 ?_; intro gb396 hg w278 hbox hb; have BK396 := Aside0.mk (hbox); have GE396 := gw hg (hs_ HB); have GW396 := GE396; have NB374_396 := nl hg (bk BK374); have NB396_374 := ng hg (bk BK374); have NB375_396 := nl hg (bk BK375); have NB396_375 := ng hg (bk BK375); have NB381_396 := nl hg (bk BK381); have NB396_381 := ng hg (bk BK381); have NB382_396 := nl hg (bk BK382); have NB396_382 := ng hg (bk BK382); have NB388_396 := nl hg (bk BK388); have NB396_388 := ng hg (bk BK388); have NB389_396 := nl hg (bk BK389); have NB396_389 := ng hg (bk BK389); have NB395_396 := nl hg (bk BK395); have NB396_395 := ng hg (bk BK395); replace BK374 := bb (bk BK374) hb; replace BK375 := bb (bk BK375) hb; replace BK381 := bb (bk BK381) hb; replace BK382 := bb (bk BK382) hb; replace BK388 := bb (bk BK388) hb; replace BK389 := bb (bk BK389) hb; replace BK395 := bb (bk BK395) hb; replace HB := hbb (hs_ HB) hb; clear hb hbox hg; have hnb279 := NB395_374.out; have hnc279 := NB374_395.out; have hnb280 := NB395_375.out; have hnc280 := NB375_395.out; have hnb281 := NB395_381.out; have hnc281 := NB381_395.out; have hnb282 := NB395_382.out; have hnc282 := NB382_395.out; have hnb283 := NB395_388.out; have hnc283 := NB388_395.out; have hnb284 := NB395_389.out; have hnc284 := NB389_395.out; have hnb285 := NB395_396.out; have hnc285 := NB396_395.out; obtain ⟨hcz286_0, hcz286_1, hfz286_0, hfz286_1⟩ := cz2 BK395; have hnb287 := NB396_374.out; have hnc287 := NB374_396.out; have hnb288 := NB396_375.out; have hnc288 := NB375_396.out; have hnb289 := NB396_381.out; have hnc289 := NB381_396.out; have hnb290 := NB396_382.out; have hnc290 := NB382_396.out; have hnb291 := NB396_388.out; have hnc291 := NB388_396.out; have hnb292 := NB396_389.out; have hnc292 := NB389_396.out; obtain ⟨hcz293_0, hcz293_1, hfz293_0, hfz293_1⟩ := cz2 BK396))
      have n0_ : Aside0 (((((w278.setCell ⟨gb395, 0, none⟩ (.int .i64 t390)).setCell ⟨gb395, 1, none⟩ (.int .i64 t391)).setCell ⟨gb396, 0, none⟩ (.int .i64 t392)).setCell ⟨gb396, 1, none⟩ (.int .i64 t393)).heap[gb374]? = some (.cells #[.int .i64 t369, .int .i64 t370] 23 (0, 0))) := ⟨bk2 BK374 NB374_396 NB374_395⟩
      have n1_ : Aside0 (((((w278.setCell ⟨gb395, 0, none⟩ (.int .i64 t390)).setCell ⟨gb395, 1, none⟩ (.int .i64 t391)).setCell ⟨gb396, 0, none⟩ (.int .i64 t392)).setCell ⟨gb396, 1, none⟩ (.int .i64 t393)).heap[gb375]? = some (.cells #[.int .i64 t371, .int .i64 t372] 23 (0, 0))) := ⟨bk2 BK375 NB375_396 NB375_395⟩
      have n2_ : Aside0 (((((w278.setCell ⟨gb395, 0, none⟩ (.int .i64 t390)).setCell ⟨gb395, 1, none⟩ (.int .i64 t391)).setCell ⟨gb396, 0, none⟩ (.int .i64 t392)).setCell ⟨gb396, 1, none⟩ (.int .i64 t393)).heap[gb381]? = some (.cells #[.int .i64 t376, .int .i64 t377] 23 (0, 0))) := ⟨bk2 BK381 NB381_396 NB381_395⟩
      have n3_ : Aside0 (((((w278.setCell ⟨gb395, 0, none⟩ (.int .i64 t390)).setCell ⟨gb395, 1, none⟩ (.int .i64 t391)).setCell ⟨gb396, 0, none⟩ (.int .i64 t392)).setCell ⟨gb396, 1, none⟩ (.int .i64 t393)).heap[gb382]? = some (.cells #[.int .i64 t378, .int .i64 t379] 23 (0, 0))) := ⟨bk2 BK382 NB382_396 NB382_395⟩
      have n4_ : Aside0 (((((w278.setCell ⟨gb395, 0, none⟩ (.int .i64 t390)).setCell ⟨gb395, 1, none⟩ (.int .i64 t391)).setCell ⟨gb396, 0, none⟩ (.int .i64 t392)).setCell ⟨gb396, 1, none⟩ (.int .i64 t393)).heap[gb388]? = some (.cells #[.int .i64 t383, .int .i64 t384] 23 (0, 0))) := ⟨bk2 BK388 NB388_396 NB388_395⟩
      have n5_ : Aside0 (((((w278.setCell ⟨gb395, 0, none⟩ (.int .i64 t390)).setCell ⟨gb395, 1, none⟩ (.int .i64 t391)).setCell ⟨gb396, 0, none⟩ (.int .i64 t392)).setCell ⟨gb396, 1, none⟩ (.int .i64 t393)).heap[gb389]? = some (.cells #[.int .i64 t385, .int .i64 t386] 23 (0, 0))) := ⟨bk2 BK389 NB389_396 NB389_395⟩
      have n6_ : Aside0 (((((w278.setCell ⟨gb395, 0, none⟩ (.int .i64 t390)).setCell ⟨gb395, 1, none⟩ (.int .i64 t391)).setCell ⟨gb396, 0, none⟩ (.int .i64 t392)).setCell ⟨gb396, 1, none⟩ (.int .i64 t393)).heap[gb395]? = some (.cells #[.int .i64 t390, .int .i64 t391] 23 (0, 0))) := ⟨bkp BK395⟩
      have n7_ : Aside0 (((((w278.setCell ⟨gb395, 0, none⟩ (.int .i64 t390)).setCell ⟨gb395, 1, none⟩ (.int .i64 t391)).setCell ⟨gb396, 0, none⟩ (.int .i64 t392)).setCell ⟨gb396, 1, none⟩ (.int .i64 t393)).heap[gb396]? = some (.cells #[.int .i64 t392, .int .i64 t393] 23 (0, 0))) := ⟨bkp BK396⟩
      have n8_ : Aside0 (Below w.heap.size w ((((w278.setCell ⟨gb395, 0, none⟩ (.int .i64 t390)).setCell ⟨gb395, 1, none⟩ (.int .i64 t391)).setCell ⟨gb396, 0, none⟩ (.int .i64 t392)).setCell ⟨gb396, 1, none⟩ (.int .i64 t393))) := ⟨hs_ HB⟩
      (try clear BK374)
      (try clear BK375)
      (try clear BK381)
      (try clear BK382)
      (try clear BK388)
      (try clear BK389)
      (try clear BK395)
      (try clear BK396)
      (try clear HB)
      generalize ((((w278.setCell ⟨gb395, 0, none⟩ (.int .i64 t390)).setCell ⟨gb395, 1, none⟩ (.int .i64 t391)).setCell ⟨gb396, 0, none⟩ (.int .i64 t392)).setCell ⟨gb396, 1, none⟩ (.int .i64 t393)) = w294 at n0_ n1_ n2_ n3_ n4_ n5_ n6_ n7_ n8_ ⊢
      have BK374 := n0_
      have BK375 := n1_
      have BK381 := n2_
      have BK382 := n3_
      have BK388 := n4_
      have BK389 := n5_
      have BK395 := n6_
      have BK396 := n7_
      have HB := n8_
      clear n0_ n1_ n2_ n3_ n4_ n5_ n6_ n7_ n8_
      replace BK374 := Aside0.mk (blk_drew BK374.out)
      replace BK375 := Aside0.mk (blk_drew BK375.out)
      replace BK381 := Aside0.mk (blk_drew BK381.out)
      replace BK382 := Aside0.mk (blk_drew BK382.out)
      replace BK388 := Aside0.mk (blk_drew BK388.out)
      replace BK389 := Aside0.mk (blk_drew BK389.out)
      replace BK395 := Aside0.mk (blk_drew BK395.out)
      replace BK396 := Aside0.mk (blk_drew BK396.out)
      replace HB := Aside0.mk (below_drew1 HB.out)
      refine start_ (n := 28) (S := fun w' => True) (ds := []) #[false, false, false, false, false, false, false, false, false, false, false, false, false, false, false, false, false, false, false, false, false, false, false, false, false, false, false, false] (by kernel_rfl) rfl rfl trivial (fun hHeld => ?_); refine with_tabW laws_FnTurnNeg.tab10 laws_FnTurnNeg.bits10 (fun HT_ HW_ => ?_)
      generalize w294.drew = w295 at BK374 BK375 BK381 BK382 BK388 BK389 BK395 BK396 HB hHeld ⊢
      refine pure_ (i := 0) (N := some 92) (v := ?_) (a' := ?_) #[true, false, false, false, false, false, false, false, false, false, false, false, false, false, false, false, false, false, false, false, false, false, false, false, false, false, false, false] rfl rfl (any_of HT_.out (by kernel_rfl)) (fun _ _ _ h => h) (Or.inl ⟨by rfl, ?_⟩) ?_ ?_
      rotate_left
      ·intro w'
       go_simp
       with_reducible rfl
      rotate_left
      ·simp only [Act.put, List.setIfInBounds_toArray, List.set_cons_zero, List.set_cons_succ, i64_w, i32_w]
       rfl
      refine pure_ (i := 1) (N := some 93) (v := ?_) (a' := ?_) #[true, true, false, false, false, false, false, false, false, false, false, false, false, false, false, false, false, false, false, false, false, false, false, false, false, false, false, false] rfl rfl (any_of HT_.out (by kernel_rfl)) (fun _ _ _ h => h) (Or.inl ⟨by rfl, ?_⟩) ?_ ?_
      rotate_left
      ·intro w'
       go_simp
       with_reducible rfl
      rotate_left
      ·simp only [Act.put, List.setIfInBounds_toArray, List.set_cons_zero, List.set_cons_succ, i64_w, i32_w]
       rfl
      refine pure_ (i := 2) (N := some 94) (v := undef) (a' := ?_) #[true, true, true, false, false, false, false, false, false, false, false, false, false, false, false, false, false, false, false, false, false, false, false, false, false, false, false, false] rfl rfl (any_of HT_.out (by kernel_rfl)) (fun _ _ _ h => h) (Or.inr ⟨by rfl, rfl⟩) ?_ ?_
      rotate_left
      ·simp only [Act.put, List.setIfInBounds_toArray, List.set_cons_zero, List.set_cons_succ, i64_w, i32_w]
       rfl
      refine pure_ (i := 3) (N := some 95) (v := undef) (a' := ?_) #[true, true, true, true, false, false, false, false, false, false, false, false, false, false, false, false, false, false, false, false, false, false, false, false, false, false, false, false] rfl rfl (any_of HT_.out (by kernel_rfl)) (fun _ _ _ h => h) (Or.inr ⟨by rfl, rfl⟩) ?_ ?_
      rotate_left
      ·simp only [Act.put, List.setIfInBounds_toArray, List.set_cons_zero, List.set_cons_succ, i64_w, i32_w]
       rfl
      refine pure_ (i := 4) (N := some 96) (v := undef) (a' := ?_) #[true, true, true, true, true, false, false, false, false, false, false, false, false, false, false, false, false, false, false, false, false, false, false, false, false, false, false, false] rfl rfl (any_of HT_.out (by kernel_rfl)) (fun _ _ _ h => h) (Or.inr ⟨by rfl, rfl⟩) ?_ ?_
      rotate_left
      ·simp only [Act.put, List.setIfInBounds_toArray, List.set_cons_zero, List.set_cons_succ, i64_w, i32_w]
       rfl
      refine pure_ (i := 5) (N := some 97) (v := undef) (a' := ?_) #[true, true, true, true, true, true, false, false, false, false, false, false, false, false, false, false, false, false, false, false, false, false, false, false, false, false, false, false] rfl rfl (any_of HT_.out (by kernel_rfl)) (fun _ _ _ h => h) (Or.inr ⟨by rfl, rfl⟩) ?_ ?_
      rotate_left
      ·simp only [Act.put, List.setIfInBounds_toArray, List.set_cons_zero, List.set_cons_succ, i64_w, i32_w]
       rfl
      refine pure_ (i := 6) (N := some 98) (v := ?_) (a' := ?_) #[true, true, true, true, true, true, true, false, false, false, false, false, false, false, false, false, false, false, false, false, false, false, false, false, false, false, false, false] rfl rfl (any_of HT_.out (by kernel_rfl)) (fun _ _ _ h => h) (Or.inl ⟨by rfl, ?_⟩) ?_ ?_
      rotate_left
      ·intro w'
       go_simp
       with_reducible rfl
      rotate_left
      ·simp only [Act.put, List.setIfInBounds_toArray, List.set_cons_zero, List.set_cons_succ, i64_w, i32_w]
       rfl
      refine pure_ (i := 7) (N := some 99) (v := ?_) (a' := ?_) #[true, true, true, true, true, true, true, true, false, false, false, false, false, false, false, false, false, false, false, false, false, false, false, false, false, false, false, false] rfl rfl (any_of HT_.out (by kernel_rfl)) (fun _ _ _ h => h) (Or.inl ⟨by rfl, ?_⟩) ?_ ?_
      rotate_left
      ·intro w'
       go_simp
       with_reducible rfl
      rotate_left
      ·simp only [Act.put, List.setIfInBounds_toArray, List.set_cons_zero, List.set_cons_succ, i64_w, i32_w]
       rfl
      refine pure_ (i := 8) (N := some 100) (v := undef) (a' := ?_) #[true, true, true, true, true, true, true, true, true, false, false, false, false, false, false, false, false, false, false, false, false, false, false, false, false, false, false, false] rfl rfl (any_of HT_.out (by kernel_rfl)) (fun _ _ _ h => h) (Or.inr ⟨by rfl, rfl⟩) ?_ ?_
      rotate_left
      ·simp only [Act.put, List.setIfInBounds_toArray, List.set_cons_zero, List.set_cons_succ, i64_w, i32_w]
       rfl
      refine pure_ (i := 9) (N := some 101) (v := undef) (a' := ?_) #[true, true, true, true, true, true, true, true, true, true, false, false, false, false, false, false, false, false, false, false, false, false, false, false, false, false, false, false] rfl rfl (any_of HT_.out (by kernel_rfl)) (fun _ _ _ h => h) (Or.inr ⟨by rfl, rfl⟩) ?_ ?_
      rotate_left
      ·simp only [Act.put, List.setIfInBounds_toArray, List.set_cons_zero, List.set_cons_succ, i64_w, i32_w]
       rfl
      refine pure_ (i := 10) (N := some 102) (v := undef) (a' := ?_) #[true, true, true, true, true, true, true, true, true, true, true, false, false, false, false, false, false, false, false, false, false, false, false, false, false, false, false, false] rfl rfl (any_of HT_.out (by kernel_rfl)) (fun _ _ _ h => h) (Or.inr ⟨by rfl, rfl⟩) ?_ ?_
      rotate_left
      ·simp only [Act.put, List.setIfInBounds_toArray, List.set_cons_zero, List.set_cons_succ, i64_w, i32_w]
       rfl
      refine pure_ (i := 11) (N := some 103) (v := undef) (a' := ?_) #[true, true, true, true, true, true, true, true, true, true, true, true, false, false, false, false, false, false, false, false, false, false, false, false, false, false, false, false] rfl rfl (any_of HT_.out (by kernel_rfl)) (fun _ _ _ h => h) (Or.inr ⟨by rfl, rfl⟩) ?_ ?_
      rotate_left
      ·simp only [Act.put, List.setIfInBounds_toArray, List.set_cons_zero, List.set_cons_succ, i64_w, i32_w]
       rfl
      refine pure_ (i := 12) (N := some 104) (v := ?_) (a' := ?_) #[true, true, true, true, true, true, true, true, true, true, true, true, true, false, false, false, false, false, false, false, false, false, false, false, false, false, false, false] rfl rfl (any_of HT_.out (by kernel_rfl)) (fun _ _ _ h => h) (Or.inl ⟨by rfl, ?_⟩) ?_ ?_
      rotate_left
      ·intro w'
       go_simp
       with_reducible rfl
      rotate_left
      ·simp only [Act.put, List.setIfInBounds_toArray, List.set_cons_zero, List.set_cons_succ, i64_w, i32_w]
       rfl
      refine pure_ (i := 13) (N := some 105) (v := ?_) (a' := ?_) #[true, true, true, true, true, true, true, true, true, true, true, true, true, true, false, false, false, false, false, false, false, false, false, false, false, false, false, false] rfl rfl (any_of HT_.out (by kernel_rfl)) (fun _ _ _ h => h) (Or.inl ⟨by rfl, ?_⟩) ?_ ?_
      rotate_left
      ·intro w'
       go_simp
       with_reducible rfl
      rotate_left
      ·simp only [Act.put, List.setIfInBounds_toArray, List.set_cons_zero, List.set_cons_succ, i64_w, i32_w]
       rfl
      refine pure_ (i := 14) (N := some 106) (v := undef) (a' := ?_) #[true, true, true, true, true, true, true, true, true, true, true, true, true, true, true, false, false, false, false, false, false, false, false, false, false, false, false, false] rfl rfl (any_of HT_.out (by kernel_rfl)) (fun _ _ _ h => h) (Or.inr ⟨by rfl, rfl⟩) ?_ ?_
      rotate_left
      ·simp only [Act.put, List.setIfInBounds_toArray, List.set_cons_zero, List.set_cons_succ, i64_w, i32_w]
       rfl
      refine pure_ (i := 15) (N := some 107) (v := undef) (a' := ?_) #[true, true, true, true, true, true, true, true, true, true, true, true, true, true, true, true, false, false, false, false, false, false, false, false, false, false, false, false] rfl rfl (any_of HT_.out (by kernel_rfl)) (fun _ _ _ h => h) (Or.inr ⟨by rfl, rfl⟩) ?_ ?_
      rotate_left
      ·simp only [Act.put, List.setIfInBounds_toArray, List.set_cons_zero, List.set_cons_succ, i64_w, i32_w]
       rfl
      refine pure_ (i := 16) (N := some 108) (v := undef) (a' := ?_) #[true, true, true, true, true, true, true, true, true, true, true, true, true, true, true, true, true, false, false, false, false, false, false, false, false, false, false, false] rfl rfl (any_of HT_.out (by kernel_rfl)) (fun _ _ _ h => h) (Or.inr ⟨by rfl, rfl⟩) ?_ ?_
      rotate_left
      ·simp only [Act.put, List.setIfInBounds_toArray, List.set_cons_zero, List.set_cons_succ, i64_w, i32_w]
       rfl
      refine pure_ (i := 17) (N := some 109) (v := undef) (a' := ?_) #[true, true, true, true, true, true, true, true, true, true, true, true, true, true, true, true, true, true, false, false, false, false, false, false, false, false, false, false] rfl rfl (any_of HT_.out (by kernel_rfl)) (fun _ _ _ h => h) (Or.inr ⟨by rfl, rfl⟩) ?_ ?_
      rotate_left
      ·simp only [Act.put, List.setIfInBounds_toArray, List.set_cons_zero, List.set_cons_succ, i64_w, i32_w]
       rfl
      refine pure_ (i := 18) (N := some 110) (v := undef) (a' := ?_) #[true, true, true, true, true, true, true, true, true, true, true, true, true, true, true, true, true, true, true, false, false, false, false, false, false, false, false, false] rfl rfl (any_of HT_.out (by kernel_rfl)) (fun _ _ _ h => h) (Or.inr ⟨by rfl, rfl⟩) ?_ ?_
      rotate_left
      ·simp only [Act.put, List.setIfInBounds_toArray, List.set_cons_zero, List.set_cons_succ, i64_w, i32_w]
       rfl
      refine pure_ (i := 19) (N := some 111) (v := undef) (a' := ?_) #[true, true, true, true, true, true, true, true, true, true, true, true, true, true, true, true, true, true, true, true, false, false, false, false, false, false, false, false] rfl rfl (any_of HT_.out (by kernel_rfl)) (fun _ _ _ h => h) (Or.inr ⟨by rfl, rfl⟩) ?_ ?_
      rotate_left
      ·simp only [Act.put, List.setIfInBounds_toArray, List.set_cons_zero, List.set_cons_succ, i64_w, i32_w]
       rfl
      refine pure_ (i := 20) (N := some 112) (v := undef) (a' := ?_) #[true, true, true, true, true, true, true, true, true, true, true, true, true, true, true, true, true, true, true, true, true, false, false, false, false, false, false, false] rfl rfl (any_of HT_.out (by kernel_rfl)) (fun _ _ _ h => h) (Or.inr ⟨by rfl, rfl⟩) ?_ ?_
      rotate_left
      ·simp only [Act.put, List.setIfInBounds_toArray, List.set_cons_zero, List.set_cons_succ, i64_w, i32_w]
       rfl
      refine pure_ (i := 21) (N := some 113) (v := undef) (a' := ?_) #[true, true, true, true, true, true, true, true, true, true, true, true, true, true, true, true, true, true, true, true, true, true, false, false, false, false, false, false] rfl rfl (any_of HT_.out (by kernel_rfl)) (fun _ _ _ h => h) (Or.inr ⟨by rfl, rfl⟩) ?_ ?_
      rotate_left
      ·simp only [Act.put, List.setIfInBounds_toArray, List.set_cons_zero, List.set_cons_succ, i64_w, i32_w]
       rfl
      refine pure_ (i := 22) (N := some 114) (v := undef) (a' := ?_) #[true, true, true, true, true, true, true, true, true, true, true, true, true, true, true, true, true, true, true, true, true, true, true, false, false, false, false, false] rfl rfl (any_of HT_.out (by kernel_rfl)) (fun _ _ _ h => h) (Or.inr ⟨by rfl, rfl⟩) ?_ ?_
      rotate_left
      ·simp only [Act.put, List.setIfInBounds_toArray, List.set_cons_zero, List.set_cons_succ, i64_w, i32_w]
       rfl
      refine pure_ (i := 23) (N := some 115) (v := undef) (a' := ?_) #[true, true, true, true, true, true, true, true, true, true, true, true, true, true, true, true, true, true, true, true, true, true, true, true, false, false, false, false] rfl rfl (any_of HT_.out (by kernel_rfl)) (fun _ _ _ h => h) (Or.inr ⟨by rfl, rfl⟩) ?_ ?_
      rotate_left
      ·simp only [Act.put, List.setIfInBounds_toArray, List.set_cons_zero, List.set_cons_succ, i64_w, i32_w]
       rfl
      refine pure_ (i := 24) (N := some 116) (v := undef) (a' := ?_) #[true, true, true, true, true, true, true, true, true, true, true, true, true, true, true, true, true, true, true, true, true, true, true, true, true, false, false, false] rfl rfl (any_of HT_.out (by kernel_rfl)) (fun _ _ _ h => h) (Or.inr ⟨by rfl, rfl⟩) ?_ ?_
      rotate_left
      ·simp only [Act.put, List.setIfInBounds_toArray, List.set_cons_zero, List.set_cons_succ, i64_w, i32_w]
       rfl
      refine pure_ (i := 25) (N := some 117) (v := undef) (a' := ?_) #[true, true, true, true, true, true, true, true, true, true, true, true, true, true, true, true, true, true, true, true, true, true, true, true, true, true, false, false] rfl rfl (any_of HT_.out (by kernel_rfl)) (fun _ _ _ h => h) (Or.inr ⟨by rfl, rfl⟩) ?_ ?_
      rotate_left
      ·simp only [Act.put, List.setIfInBounds_toArray, List.set_cons_zero, List.set_cons_succ, i64_w, i32_w]
       rfl
      refine pure_ (i := 26) (N := some 118) (v := ?_) (a' := ?_) #[true, true, true, true, true, true, true, true, true, true, true, true, true, true, true, true, true, true, true, true, true, true, true, true, true, true, true, false] rfl rfl (any_of HT_.out (by kernel_rfl)) (fun _ _ _ h => h) (Or.inl ⟨by rfl, ?_⟩) ?_ ?_
      rotate_left
      ·intro w'
       go_simp
       with_reducible rfl
      rotate_left
      ·simp only [Act.put, List.setIfInBounds_toArray, List.set_cons_zero, List.set_cons_succ, i64_w, i32_w]
       rfl
      refine pure_ (i := 27) (N := some 2) (v := ?_) (a' := ?_) #[true, true, true, true, true, true, true, true, true, true, true, true, true, true, true, true, true, true, true, true, true, true, true, true, true, true, true, true] rfl rfl (any_of HT_.out (by kernel_rfl)) (fun _ _ _ h => h) (Or.inl ⟨by rfl, ?_⟩) ?_ ?_
      rotate_left
      ·intro w'
       go_simp
       with_reducible rfl
      rotate_left
      ·simp only [Act.put, List.setIfInBounds_toArray, List.set_cons_zero, List.set_cons_succ, i64_w, i32_w]
       rfl
      refine done_ (done_of HT_.out (by kernel_rfl)) ?_
      try go_wp2
      go_ret
      exact ⟨by first | rfl | (simp [errW_none, errW_some] <;> rfl) | (simp [*, errW_none, errW_some] <;> rfl), hs_ HB⟩


/-- A list of bytes. -/
def Bytes (l : List Int) : Prop := ∀ x ∈ l, 0 ≤ x ∧ x < 256
theorem bytes_of {l : List Int} (h : ∀ x ∈ l, (Lit.int .u8 x).wf = true) : Bytes l := by
  intro x hx
  have := h x hx
  simp [Lit.wf, IntKind.min, IntKind.max, IntKind.bits, IntKind.signed] at this
  omega
theorem Bytes.at_ {l : List Int} (h : Bytes l) (i : Int) : 0 ≤ rd l i ∧ rd l i < 256 := by
  unfold rd
  rw [List.getD_eq_getElem?_getD]
  rcases Nat.lt_or_ge i.toNat l.length with h1 | h1
  · rw [List.getElem?_eq_getElem h1]
    exact h _ (List.getElem_mem h1)
  · rw [List.getElem?_eq_none h1]; simp
theorem bits_xor {a b : Int} (ha : 0 ≤ a) (ha2 : a < 1099511627776) (hb : 0 ≤ b) (hb2 : b < 1099511627776) : 0 ≤ Go.bits .xor .i64 a b ∧ Go.bits .xor .i64 a b < 1099511627776 := by
  obtain ⟨a, rfl⟩ := Int.eq_ofNat_of_zero_le ha
  obtain ⟨b, rfl⟩ := Int.eq_ofNat_of_zero_le hb
  have h := Nat.xor_lt_two_pow (n := 40) (x := a) (y := b) (by omega) (by omega)
  have ea : a % 2 ^ 64 = a := Nat.mod_eq_of_lt (by omega)
  have eb : b % 2 ^ 64 = b := Nat.mod_eq_of_lt (by omega)
  have e : Go.bits .xor .i64 (a : Int) (b : Int) = ((a ^^^ b : Nat) : Int) := by
    show IntKind.i64.wrap ((BitVec.ofInt 64 (a : Int) ^^^ BitVec.ofInt 64 (b : Int)).toNat : Nat) = _
    rw [BitVec.ofInt_natCast, BitVec.ofInt_natCast, BitVec.toNat_xor, BitVec.toNat_ofNat, BitVec.toNat_ofNat, ea, eb, IntKind.wrap_i64]
    omega
  rw [e]
  omega
theorem tmod_bd {a n : Int} (ha : 0 ≤ a) (hn : 0 < n) : 0 ≤ Int.tmod a n ∧ Int.tmod a n < n :=
  ⟨Int.tmod_nonneg _ ha, Int.tmod_lt_of_pos _ hn⟩
theorem pick_tells {b : List Int} (hb : Bytes b) (hl : b.length ≤ 2000) {p n : Int} (hp : 0 ≤ p) (hp2 : p < 1000000) (hn : n < 1073741824) {k : Nat} (hk : 1 ≤ k) :
    ∃ v, spec_l6Rd_pick.f k b p n = some (v, p + 1) ∧ 0 ≤ v ∧ (v < n ∨ n < 1 ∧ v = 0) := by
  obtain ⟨k, rfl⟩ : ∃ m, k = m + 1 := ⟨k - 1, by omega⟩
  unfold spec_l6Rd_pick.f
  rw [w64 (x := p + 1) (by omega) (by omega)]
  by_cases h1 : n < 1
  · rw [if_pos h1]
    exact ⟨0, by simp [spec_l6Rd_pick.j0], by omega, .inr ⟨h1, rfl⟩⟩
  rw [if_neg h1]
  by_cases h2 : (b.length : Int) = 0
  · exact ⟨0, by simp [spec_l6Rd_pick.j0, h2], by omega, .inl (by omega)⟩
  have h2b : ((b.length : Int) == 0) = false := by simpa using h2
  rw [h2b]
  simp only [spec_l6Rd_pick.j0]
  rw [if_neg (by decide), Int.add_sub_cancel, w64 (x := p) (by omega) (by omega)]
  have hn0 : ¬ n = 0 := by omega
  by_cases h3 : p < (b.length : Int)
  · rw [if_pos h3, if_pos hp, if_neg hn0]
    have hr := hb.at_ p
    rw [w64 (by omega) (by omega)]
    have := tmod_bd hr.1 (show 0 < n by omega)
    exact ⟨_, rfl, this.1, .inl this.2⟩
  · rw [if_neg h3, if_neg h2]
    have t1 := tmod_bd hp (show 0 < (b.length : Int) by omega)
    have e1 : wrap64 (wrap64 (p * 7) + 3) = p * 7 + 3 := by rw [w64 (x := p * 7) (by omega) (by omega)]; exact w64 (by omega) (by omega)
    have t2 := tmod_bd (show 0 ≤ p * 7 + 3 by omega) (show 0 < (b.length : Int) by omega)
    have r1 := hb.at_ (Int.tmod p (b.length : Int))
    have r2 := hb.at_ (Int.tmod (p * 7 + 3) (b.length : Int))
    have q := Int.tdiv_nonneg hp (show 0 ≤ (b.length : Int) by omega)
    have q2 : Int.tdiv p (b.length : Int) ≤ p := by
      rw [Int.tdiv_eq_ediv_of_nonneg hp]
      exact Int.ediv_le_self _ hp
    rw [if_pos t1.1, if_pos t1.2, e1, if_pos t2.1, if_pos t2.2, if_neg hn0]
    generalize rd b (Int.tmod p (b.length : Int)) = u at r1 ⊢
    generalize rd b (Int.tmod (p * 7 + 3) (b.length : Int)) = v at r2 ⊢
    generalize Int.tdiv p (b.length : Int) = c at q q2 ⊢
    have e2 : wrap64 (wrap64 (wrap64 (wrap64 (wrap64 u * 131) + wrap64 (wrap64 v * 1117)) + wrap64 (p * 29)) + wrap64 (wrap64 c * 53)) = u * 131 + v * 1117 + p * 29 + c * 53 := by
      rw [w64 (x := u) (by omega) (by omega), w64 (x := v) (by omega) (by omega), w64 (x := c) (by omega) (by omega), w64 (x := u * 131) (by omega) (by omega), w64 (x := v * 1117) (by omega) (by omega), w64 (x := p * 29) (by omega) (by omega),
        w64 (x := c * 53) (by omega) (by omega), w64 (x := u * 131 + v * 1117) (by omega) (by omega), w64 (x := u * 131 + v * 1117 + p * 29) (by omega) (by omega)]
      exact w64 (by omega) (by omega)
    rw [e2]
    generalize hx : u * 131 + v * 1117 + p * 29 + c * 53 = x
    have hx0 : 0 ≤ x := by omega
    have hx1 : x < 1000000000 := by omega
    have e3 : wrap64 (Int.tdiv x 64) = x / 64 := by rw [Int.tdiv_eq_ediv_of_nonneg hx0]; exact w64 (by omega) (by omega)
    rw [e3]
    have hb3 := bits_xor hx0 (by omega) (show 0 ≤ x / 64 by omega) (by omega)
    have := tmod_bd hb3.1 (show 0 < n by omega)
    exact ⟨_, rfl, this.1, .inl this.2⟩
/-- A number at most so far from 0, or a little below it. -/
theorem big_j1 {b : List Int} (hb : Bytes b) (hl : b.length ≤ 2000) {p m x : Int} (hp : 0 ≤ p) (hp2 : p < 999990) (hm : 3 ≤ m) (hm2 : m ≤ 1152921504606846976) (hx : -3 ≤ x) (hx2 : x ≤ 1152921504606846976) {k : Nat} (hk : 3 ≤ k) :
    ∃ v p', spec_l71Big.j1 k m x b p = some (v, p') ∧ -m ≤ v ∧ v ≤ m ∧ p ≤ p' ∧ p' ≤ p + 1 := by
  obtain ⟨k, rfl⟩ : ∃ m, k = m + 1 := ⟨k - 1, by omega⟩
  simp only [spec_l71Big.j1]
  by_cases h : x < 0
  · rw [if_pos h]; exact ⟨_, _, rfl, by omega, by omega, by omega, by omega⟩
  rw [if_neg h, w64 (x := m + 1) (by omega) (by omega), if_neg (by omega)]
  obtain ⟨v, h1, h2, h3⟩ := pick_tells hb hl hp (show p < 1000000 by omega) (show (2 : Int) < 1073741824 by omega) (k := k) (by omega)
  rw [h1]; simp only [Option.bind_some]
  have t := tmod_bd (show 0 ≤ x by omega) (show 0 < m + 1 by omega)
  rw [w64 (x := -(Int.tmod x (m + 1))) (by omega) (by omega)]
  split
  · exact ⟨_, _, rfl, by omega, by omega, by omega, by omega⟩
  · exact ⟨_, _, rfl, by omega, by omega, by omega, by omega⟩
theorem big_l0 {b : List Int} (hb : Bytes b) (hl : b.length ≤ 2000) {m : Int} (hm : 3 ≤ m) (hm2 : m ≤ 1152921504606846976) (d : Nat) : ∀ (k : Nat) (p i n : Int), 0 ≤ p → p + d < 999985 → 0 ≤ i → 4 - i = d → 0 ≤ n →
    (i = 0 → n = 0) → (i = 1 → n < 32768) → (i = 2 → n < 1073741824) → (i = 3 → n < 35184372088832) → (i = 4 → n < 1152921504606846976) → d + 5 < k →
    ∃ v p', spec_l71Big.l0 k m n i b p = some (v, p') ∧ -m ≤ v ∧ v ≤ m ∧ p ≤ p' ∧ p' ≤ p + d + 1 := by
  induction d with
  | zero =>
    intro k p i n hp hp2 hi hd hn h0 h1 h2 h3 h4 hk
    obtain ⟨k, rfl⟩ : ∃ m, k = m + 1 := ⟨k - 1, by omega⟩
    simp only [spec_l71Big.l0]
    rw [if_neg (by omega)]
    obtain ⟨v, p', a, b1, c, d1, e⟩ := big_j1 hb hl hp (show p < 999990 by omega) hm hm2 (show -3 ≤ n by omega) (show n ≤ _ by have := h4 (by omega); omega) (k := k) (by omega)
    exact ⟨v, p', a, b1, c, d1, by omega⟩
  | succ d ih =>
    intro k p i n hp hp2 hi hd hn h0 h1 h2 h3 h4 hk
    obtain ⟨k, rfl⟩ : ∃ m, k = m + 1 := ⟨k - 1, by omega⟩
    simp only [spec_l71Big.l0]
    rw [if_pos (by omega)]
    obtain ⟨v, q1, q2, q3⟩ := pick_tells hb hl hp (show p < 1000000 by omega) (show (32768 : Int) < 1073741824 by omega) (k := k) (by omega)
    rw [q1]; simp only [Option.bind_some]
    have hn2 : n < 35184372088832 := by
      rcases (show i = 0 ∨ i = 1 ∨ i = 2 ∨ i = 3 by omega) with e | e | e | e
      · have := h0 e; omega
      · have := h1 e; omega
      · have := h2 e; omega
      · exact h3 e
    have e : wrap64 (wrap64 (n * 32768) + v) = n * 32768 + v := by rw [w64 (x := n * 32768) (by omega) (by omega)]; exact w64 (by omega) (by omega)
    rw [e, w64 (x := i + 1) (by omega) (by omega)]
    obtain ⟨v', p', a, b1, c, d1, e⟩ := ih k (p + 1) (i + 1) (n * 32768 + v) (by omega) (by omega) (by omega) (by omega) (by omega) (by omega)
      (fun z => by have := h0 (by omega); omega) (fun z => by have := h1 (by omega); omega) (fun z => by have := h2 (by omega); omega) (fun z => by have := h3 (by omega); omega) (by omega)
    exact ⟨v', p', a, b1, c, by omega, by omega⟩
theorem big_tells {b : List Int} (hb : Bytes b) (hl : b.length ≤ 2000) {p m : Int} (hp : 0 ≤ p) (hp2 : p < 999970) (hm : 3 ≤ m) (hm2 : m ≤ 1152921504606846976) {k : Nat} (hk : 15 ≤ k) :
    ∃ v p', spec_l71Big.f k b p m = some (v, p') ∧ -m ≤ v ∧ v ≤ m ∧ p ≤ p' ∧ p' ≤ p + 8 := by
  unfold spec_l71Big.f
  obtain ⟨v, q1, q2, q3⟩ := pick_tells hb hl hp (show p < 1000000 by omega) (show (6 : Int) < 1073741824 by omega) (k := k) (by omega)
  rw [q1]; simp only [Option.bind_some]
  by_cases c0 : v = 0
  · rw [if_pos c0]
    obtain ⟨u, r1, r2, r3⟩ := pick_tells hb hl (show 0 ≤ p + 1 by omega) (show p + 1 < 1000000 by omega) (show (7 : Int) < 1073741824 by omega) (k := k) (by omega)
    rw [r1]; simp only [Option.bind_some]
    rw [w64 (x := u - 3) (by omega) (by omega)]
    obtain ⟨v, p', a, b1, c, d1, e⟩ := big_j1 hb hl (show 0 ≤ p + 1 + 1 by omega) (show p + 1 + 1 < 999990 by omega) hm hm2 (show -3 ≤ u - 3 by omega) (by omega) (k := k) (by omega)
    exact ⟨v, p', a, b1, c, by omega, by omega⟩
  rw [if_neg c0]
  by_cases c1 : v = 1
  · rw [if_pos c1]
    obtain ⟨u, r1, r2, r3⟩ := pick_tells hb hl (show 0 ≤ p + 1 by omega) (show p + 1 < 1000000 by omega) (show (3 : Int) < 1073741824 by omega) (k := k) (by omega)
    rw [r1]; simp only [Option.bind_some]
    rw [w64 (x := m - u) (by omega) (by omega)]
    obtain ⟨v, p', a, b1, c, d1, e⟩ := big_j1 hb hl (show 0 ≤ p + 1 + 1 by omega) (show p + 1 + 1 < 999990 by omega) hm hm2 (show -3 ≤ m - u by omega) (by omega) (k := k) (by omega)
    exact ⟨v, p', a, b1, c, by omega, by omega⟩
  rw [if_neg c1]
  by_cases c2 : v = 2
  · rw [if_pos c2]
    obtain ⟨u, r1, r2, r3⟩ := pick_tells hb hl (show 0 ≤ p + 1 by omega) (show p + 1 < 1000000 by omega) (show (1048576 : Int) < 1073741824 by omega) (k := k) (by omega)
    rw [r1]; simp only [Option.bind_some]
    obtain ⟨v, p', a, b1, c, d1, e⟩ := big_j1 hb hl (show 0 ≤ p + 1 + 1 by omega) (show p + 1 + 1 < 999990 by omega) hm hm2 (show -3 ≤ u by omega) (by omega) (k := k) (by omega)
    exact ⟨v, p', a, b1, c, by omega, by omega⟩
  rw [if_neg c2]
  obtain ⟨v, p', a, b1, c, d1, e⟩ := big_l0 hb hl hm hm2 4 k (p + 1) 0 0 (by omega) (by omega) (by omega) (by omega) (by omega) (by omega) (by omega) (by omega) (by omega) (by omega) (by omega)
  exact ⟨v, p', a, b1, c, by omega, by omega⟩
theorem open_tells {l : List Int} (hl : Bytes l) : ∃ b, spec_l6Open.f l = some (b, 0) ∧ Bytes b ∧ b.length ≤ 2000 := by
  unfold spec_l6Open.f
  by_cases h : (l.length : Int) > 2000
  · rw [if_pos h, if_pos (by omega)]
    exact ⟨_, rfl, fun x hx => hl x (List.mem_of_mem_take hx), by simp; omega⟩
  · rw [if_neg h]
    exact ⟨_, rfl, hl, by omega⟩
theorem tdiv6_bd {x A : Int} (h1 : -A ≤ x) (h2 : x ≤ A) : -A ≤ Int.tdiv x 6 ∧ Int.tdiv x 6 ≤ A := by
  rcases Int.le_total 0 x with h | h
  · rw [Int.tdiv_eq_ediv_of_nonneg h]; omega
  · obtain ⟨c, rfl⟩ : ∃ c, x = -c := ⟨-x, by omega⟩
    rw [Int.neg_tdiv, Int.tdiv_eq_ediv_of_nonneg (show 0 ≤ c by omega)]; omega
theorem ang_tells {b : List Int} (hb : Bytes b) (hl : b.length ≤ 2000) {p : Int} (hp : 0 ≤ p) (hp2 : p < 999800) {k : Nat} (hk : 20 ≤ k) :
    ∃ v p', spec_l71Ang.f k b p = some (v, p') ∧ -1000000000 ≤ v ∧ v ≤ 1000000000 ∧ p ≤ p' ∧ p' ≤ p + 9 := by
  unfold spec_l71Ang.f
  obtain ⟨v, q1, q2, q3⟩ := pick_tells hb hl hp (show p < 1000000 by omega) (show (6 : Int) < 1073741824 by omega) (k := k) (by omega)
  rw [q1]; simp only [Option.bind_some]
  by_cases c0 : v = 0
  · rw [if_pos c0]
    obtain ⟨u, r1, r2, r3⟩ := pick_tells hb hl (show 0 ≤ p + 1 by omega) (by omega) (show (49 : Int) < 1073741824 by omega) (k := k) (by omega)
    rw [r1]; simp only [Option.bind_some]
    rw [w64 (x := u - 24) (by omega) (by omega), w64 (x := (u - 24) * 32400000) (by omega) (by omega)]
    have t := tdiv6_bd (x := (u - 24) * 32400000) (A := 810000000) (by omega) (by omega)
    rw [w64 (by omega) (by omega)]
    exact ⟨_, _, rfl, by omega, by omega, by omega, by omega⟩
  rw [if_neg c0]
  by_cases c1 : v = 1
  · rw [if_pos c1]
    obtain ⟨u, r1, r2, r3⟩ := pick_tells hb hl (show 0 ≤ p + 1 by omega) (by omega) (show (721 : Int) < 1073741824 by omega) (k := k) (by omega)
    rw [r1]; simp only [Option.bind_some]
    rw [w64 (x := u - 360) (by omega) (by omega), w64 (x := (u - 360) * 360000) (by omega) (by omega)]
    exact ⟨_, _, rfl, by omega, by omega, by omega, by omega⟩
  rw [if_neg c1]
  by_cases c2 : v = 2
  · rw [if_pos c2]
    obtain ⟨u, r1, r2, r3⟩ := pick_tells hb hl (show 0 ≤ p + 1 by omega) (by omega) (show (13 : Int) < 1073741824 by omega) (k := k) (by omega)
    rw [r1]; simp only [Option.bind_some]
    obtain ⟨x, s1, s2, s3⟩ := pick_tells hb hl (show 0 ≤ p + 1 + 1 by omega) (by omega) (show (5 : Int) < 1073741824 by omega) (k := k) (by omega)
    rw [s1]; simp only [Option.bind_some]
    rw [w64 (x := u - 6) (by omega) (by omega), w64 (x := (u - 6) * 32400000) (by omega) (by omega), w64 (x := (u - 6) * 32400000 + x) (by omega) (by omega), w64 (by omega) (by omega)]
    exact ⟨_, _, rfl, by omega, by omega, by omega, by omega⟩
  rw [if_neg c2]
  obtain ⟨u, p', r1, r2, r3, r4, r5⟩ := big_tells hb hl (show 0 ≤ p + 1 by omega) (by omega) (show (3 : Int) ≤ 129600000 by omega) (by omega) (k := k) (by omega)
  rw [r1]; simp only [Option.bind_some]
  exact ⟨_, _, rfl, by omega, by omega, by omega, by omega⟩
theorem wide_tells {b : List Int} (hb : Bytes b) (hl : b.length ≤ 2000) {p : Int} (hp : 0 ≤ p) (hp2 : p < 999700) {k : Nat} (hk : 20 ≤ k) :
    ∃ v p', spec_l71Wide.f k b p = some (v, p') ∧ -1000000000001 ≤ v ∧ v ≤ 1000000000001 := by
  unfold spec_l71Wide.f
  obtain ⟨v, q1, q2, q3⟩ := pick_tells hb hl hp (show p < 1000000 by omega) (show (16 : Int) < 1073741824 by omega) (k := k) (by omega)
  rw [q1]; simp only [Option.bind_some]
  by_cases c0 : v = 0
  · rw [if_pos c0]
    obtain ⟨u, p', r1, r2, r3, r4, r5⟩ := big_tells hb hl (show 0 ≤ p + 1 by omega) (by omega) (show (3 : Int) ≤ 1000000000000 by omega) (by omega) (k := k) (by omega)
    rw [r1]; simp only [Option.bind_some]
    exact ⟨_, _, rfl, by omega, by omega⟩
  rw [if_neg c0]
  by_cases c1 : v = 1
  · rw [if_pos c1]
    obtain ⟨u, r1, r2, r3⟩ := pick_tells hb hl (show 0 ≤ p + 1 by omega) (by omega) (show (3 : Int) < 1073741824 by omega) (k := k) (by omega)
    rw [r1]; simp only [Option.bind_some]
    rw [if_pos r2, if_pos (by simp; omega)]
    have hu : u = 0 ∨ u = 1 ∨ u = 2 := by omega
    refine ⟨_, _, rfl, ?_, ?_⟩ <;> (rcases hu with h | h | h <;> subst h <;> decide)
  rw [if_neg c1]
  obtain ⟨u, p', r1, r2, r3, r4, r5⟩ := ang_tells hb hl (show 0 ≤ p + 1 by omega) (by omega) (k := k) hk
  rw [r1]; simp only [Option.bind_some]
  exact ⟨_, _, rfl, by omega, by omega⟩
theorem drawTurnBy_tells {l : List Int} (hl : Bytes l) {k : Nat} (hk : 20 ≤ k) : ∃ u r a, spec_DrawTurnBy.f k l = some (u, r, a) ∧ -1000000000001 ≤ a ∧ a ≤ 1000000000001 := by
  unfold spec_DrawTurnBy.f
  obtain ⟨b, h1, h2, h3⟩ := open_tells hl
  rw [h1]; simp only [Option.bind_some]
  obtain ⟨u, p, q1, q2, q3, q4, q5⟩ := big_tells h2 h3 (show (0 : Int) ≤ 0 by omega) (by omega) (show (3 : Int) ≤ 500000000 by omega) (by omega) (k := k) (by omega)
  rw [q1]; simp only [Option.bind_some]
  obtain ⟨v, r1, r2⟩ := pick_tells h2 h3 (show 0 ≤ p by omega) (by omega) (show (20 : Int) < 1073741824 by omega) (k := k) (by omega)
  rw [r1]; simp only [Option.bind_some]
  obtain ⟨u', p', s1, s2, s3, s4, s5⟩ := big_tells h2 h3 (show 0 ≤ p + 1 by omega) (by omega) (show (3 : Int) ≤ 500000000 by omega) (by omega) (k := k) (by omega)
  rw [s1]; simp only [Option.bind_some]
  obtain ⟨a, p2, t1, t2, t3⟩ := wide_tells h2 h3 (show 0 ≤ p' by omega) (by omega) (k := k) hk
  rw [t1]; simp only [Option.bind_some]
  split <;> exact ⟨_, _, _, rfl, t2, t3⟩
theorem FnTurnNeg_pure {l0 : List Int} (hl : Bytes l0) {k : Nat} (hk : 300 ≤ k) : laws_FnTurnNeg.f (k + 1) l0 = some true := by
  unfold laws_FnTurnNeg.f
  by_cases h : (l0.length : Int) > 1048576
  · rw [if_pos h]
  rw [if_neg h]
  obtain ⟨u, r, a, hd, ha1, ha2⟩ := drawTurnBy_tells hl (k := k + 1) (by omega)
  obtain ⟨i1, i2⟩ := TurnBy_is (u := u) (r := r) (a := a) (k := k + 1) (by omega)
  rw [hd]; simp only [Option.bind_some]
  rw [i1, i2]
  by_cases hin : turnOk u r a
  · rw [if_pos hin]
    simp only [Option.bind_some, bne_self_eq_false, beq_self_eq_true, Bool.not_true, Bool.or_false, Bool.false_eq_true, if_false]
    rw [laws_FnTurnNeg.j0]
    simp only [Bool.false_eq_true, if_false]
    obtain ⟨u1, u2, r1, r2, a1, a2⟩ := hin
    obtain ⟨⟨y1, y2, y3⟩, ⟨x1, x2, x3⟩⟩ := turn_ok u1 u2 r1 r2 a
    obtain ⟨n1, n2⟩ := turn_neg u r a
    obtain ⟨m1, m2⟩ := turn_more u r a
    have j1 := (TurnBy_is (u := -u) (r := -r) (a := a) (k := k) (by omega)).1
    have j2 := (TurnBy_is (u := u) (r := r) (a := a + 129600000) (k := k) (by omega)).1
    rw [if_pos ⟨by omega, by omega, by omega, by omega, by omega, by omega⟩, n1, n2] at j1
    rw [w64 (x := -u) (by omega) (by omega), w64 (x := -r) (by omega) (by omega), w64 (x := a + 129600000) (by omega) (by omega), j1, j2, (neg_is (by omega) y2 (by omega)).1, (neg_is (by omega) x2 (by omega)).1]
    by_cases h2 : turnOk u r (a + 129600000)
    · rw [if_pos h2, m1, m2]
      simp [negM]
    · rw [if_neg h2]
      simp [negM]
  · rw [if_neg hin]
    simp [laws_FnTurnNeg.j0]
theorem FnTurnNeg_true (A0 : Option Addr) (c0 : Nat) (l0 : List Int) (w : World) (hr0 : Kd.C (Kd.int .u8) w A0 l0.length l0) (hc0 : l0.length ≤ c0) (hw0 : ∀ x ∈ l0, (Lit.int .u8 x).wf = true) :
    Calls Try.prog 7 #[.slice A0 l0.length c0] w fun e w' => e = .returned (.bool true) ∧ Below w.heap.size w w' :=
  laws_FnTurnNeg.calls 301 A0 c0 l0 true w hr0 hc0 (FnTurnNeg_pure (bytes_of hw0) (by omega))

end Go.Proofs.Ytcdgplkmahabiaa.M
