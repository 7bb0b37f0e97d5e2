import Derived.Test.YtmcippkpgmehdaaP5
import Derived.Test.YtmcippkpgmehdaaP7
import Derived.Test.YtmcippkpgmehdaaP8
import Derived.Test.YtmcippkpgmehdaaDf
namespace Go.Proofs.Ytmcippkpgmehdaa.M
open Go.RowKit Go.Proofs.YtmcippkpgmehdaaW.PrintWords Go.Proofs.YtmcippkpgmehdaaW.PrintLast Go.Proofs.YtmcippkpgmehdaaW.PrintMore
attribute [local go_sem] max2_int min2_int max_two min_two max_three min_three max_four min_four
attribute [local go_sem high] eqA42 eqA29 eqA24
attribute [local go_sem] fld42_0 fld42_1 fld29_0 fld29_1 fld24_0 fld24_1 fld38_0 fld38_1 fld88_0 fld88_1 fld88_2 fld88_3 fld88_4
set_option linter.unusedVariables false
set_option linter.unusedSimpArgs false
/-! ### laws_FnSpotFar: function 3 -/
def laws_FnSpotFar.j0 : Nat → Bool → Bool → Bool → Int → Int → Int → Int → Int → Int → Option (Bool)
 | 0, _, _, _, _, _, _, _, _, _ => none
 | k + 1, x5, x7, x38, x316000, x316001, x320000, x320001, x324000, x324001 => if x38 = true then (if (x7 == x5) = true then (some (x324000 == x320000 && (x324001 == x320001))) else (some false)) else ((impl_SpotFar.f x324000 x324001).bind fun bt324 => ((impl_SpotDist.f k x316000 x316001 x324000 x324001).bind fun bt328 => ((impl_SpotOk.f x324000 x324001).bind fun t332 => (if t332 = true then (if bt324.2.2 = true then (if (bt324.1 == x316000 && (bt324.2.1 == x316001)) = true then (if bt328.2.2 = true then ((impl_FanHas.f bt328.1 bt328.2.1 64800000).bind fun t333 => (some t333)) else (some false)) else (some false)) else (some false)) else (some false)))))
def laws_FnSpotFar.f (k : Nat) (l0 : List Int) : Option (Bool) := if (l0.length : Int) > 1048576 then (some true) else ((spec_DrawSpotFar.f k l0).bind fun bt313 => ((spec_SpotFar.f bt313.1 bt313.2).bind fun bt316 => ((impl_SpotFar.f bt313.1 bt313.2).bind fun bt320 => (if (bt320.2.2 != bt316.2.2) = true then (laws_FnSpotFar.j0 k bt316.2.2 bt320.2.2 true bt313.1 bt313.2 bt316.1 bt316.2.1 bt320.1 bt320.2.1) else (if (!(bt320.1 == bt316.1) || (!(bt320.2.1 == bt316.2.1))) = true then (laws_FnSpotFar.j0 k bt316.2.2 bt320.2.2 true bt313.1 bt313.2 bt316.1 bt316.2.1 bt320.1 bt320.2.1) else (laws_FnSpotFar.j0 k bt316.2.2 bt320.2.2 (!bt320.2.2) bt313.1 bt313.2 bt316.1 bt316.2.1 bt320.1 bt320.2.1))))))
set_option maxHeartbeats 8000000 in
set_option maxRecDepth 100000 in
theorem laws_FnSpotFar.calls (k : Nat) (A0 : Option Addr) (c0 : Nat) (l0 : List Int) (r : Bool) (w : World) (hr0 : Kd.C (Kd.int .u8) w A0 l0.length l0) (hc0 : l0.length ≤ c0) (h : laws_FnSpotFar.f k l0 = some r) :
  Calls Try.prog 3 #[.slice A0 l0.length c0] w fun e w' => e = .returned (.bool r) ∧ Below w.heap.size w w' := by
 have hu24 := Try.underlying24
 have hu29 := Try.underlying29
 have HR0 := Aside0.mk hr0
 have HC0 := Aside0.mk hc0
 clear hr0 hc0
 have HB := Aside0.mk (Below.refl w.heap.size w)
 have H : (if (l0.length : Int) > 1048576 then (some true) else ((spec_DrawSpotFar.f k l0).bind fun bt313 => ((spec_SpotFar.f bt313.1 bt313.2).bind fun bt316 => ((impl_SpotFar.f bt313.1 bt313.2).bind fun bt320 => (if (bt320.2.2 != bt316.2.2) = true then (laws_FnSpotFar.j0 k bt316.2.2 bt320.2.2 true bt313.1 bt313.2 bt316.1 bt316.2.1 bt320.1 bt320.2.1) else (if (!(bt320.1 == bt316.1) || (!(bt320.2.1 == bt316.2.1))) = true then (laws_FnSpotFar.j0 k bt316.2.2 bt320.2.2 true bt313.1 bt313.2 bt316.1 bt316.2.1 bt320.1 bt320.2.1) else (laws_FnSpotFar.j0 k bt316.2.2 bt320.2.2 (!bt320.2.2) bt313.1 bt313.2 bt316.1 bt316.2.1 bt320.1 bt320.2.1))))))) = some r := h
 clear h
 by_cases c2 : (l0.length : Int) > 1048576
 ·rw [if_pos c2] at H
  have c2b0 : decide (1048576 < (l0.length : Int)) = true := decide_eq_true c2
  have c2b1 : decide (1048576 < l0.length) = true := decide_eq_true (by omega)
  clear c2
  obtain rfl := Option.some.inj H
  go_enter Try.func3, Try.ntmps3
  go_wp2
  go_ret
  exact ⟨by first | rfl | (simp [errW_none, errW_some] <;> rfl) | (simp [*, errW_none, errW_some] <;> rfl), h0_ HB⟩
 ·rw [if_neg c2] at H
  have c2b0 : decide (1048576 < (l0.length : Int)) = false := decide_eq_false c2
  have c2b1 : decide (1048576 < l0.length) = false := decide_eq_false (by omega)
  clear c2
  replace H := Option.bind_eq_some_iff.mp H
  obtain ⟨⟨t313, t314⟩, A30, H⟩ := H
  replace H : ((spec_SpotFar.f t313 t314).bind fun bt316 => ((impl_SpotFar.f t313 t314).bind fun bt320 => (if (bt320.2.2 != bt316.2.2) = true then (laws_FnSpotFar.j0 k bt316.2.2 bt320.2.2 true t313 t314 bt316.1 bt316.2.1 bt320.1 bt320.2.1) else (if (!(bt320.1 == bt316.1) || (!(bt320.2.1 == bt316.2.1))) = true then (laws_FnSpotFar.j0 k bt316.2.2 bt320.2.2 true t313 t314 bt316.1 bt316.2.1 bt320.1 bt320.2.1) else (laws_FnSpotFar.j0 k bt316.2.2 bt320.2.2 (!bt320.2.2) t313 t314 bt316.1 bt316.2.1 bt320.1 bt320.2.1))))) = some r := H
  have A3 := Aside0.mk A30
  clear A30
  replace H := Option.bind_eq_some_iff.mp H
  obtain ⟨⟨t316, t317, t318⟩, A40, H⟩ := H
  replace H : ((impl_SpotFar.f t313 t314).bind fun bt320 => (if (bt320.2.2 != t318) = true then (laws_FnSpotFar.j0 k t318 bt320.2.2 true t313 t314 t316 t317 bt320.1 bt320.2.1) else (if (!(bt320.1 == t316) || (!(bt320.2.1 == t317))) = true then (laws_FnSpotFar.j0 k t318 bt320.2.2 true t313 t314 t316 t317 bt320.1 bt320.2.1) else (laws_FnSpotFar.j0 k t318 bt320.2.2 (!bt320.2.2) t313 t314 t316 t317 bt320.1 bt320.2.1)))) = some r := H
  have A4 := Aside0.mk A40
  clear A40
  replace H := Option.bind_eq_some_iff.mp H
  obtain ⟨⟨t320, t321, t322⟩, A50, H⟩ := H
  replace H : (if (t322 != t318) = true then (laws_FnSpotFar.j0 k t318 t322 true t313 t314 t316 t317 t320 t321) else (if (!(t320 == t316) || (!(t321 == t317))) = true then (laws_FnSpotFar.j0 k t318 t322 true t313 t314 t316 t317 t320 t321) else (laws_FnSpotFar.j0 k t318 t322 (!t322) t313 t314 t316 t317 t320 t321))) = some r := H
  have A5 := Aside0.mk A50
  clear A50
  have HC6 := Aside0.mk H
  clear H
  go_enter Try.func3, Try.ntmps3
  go_upto_region 6 with (first | ((with_reducible refine gate_callee (f := 17) rfl ?_); refine gL 16 Try.func17 #[.slice A0 l0.length c0] ?_; (with_reducible refine (spec_DrawSpotFar.calls k _ _ l0 t313 t314 _ ?side1 ?side2 A3.out).mono ?_); (case side1 => repeat (first | exact HR0.out | (with_reducible refine Kd.C_alloc ?_ _) | (with_reducible refine Kd.C_drewN ?_ _) | (with_reducible refine Kd.C_drew ?_))); (case side2 => exact HC0.out); rintro e w7 ⟨rfl, hb⟩; refine ⟨_, rfl, ?_⟩; replace HB := hbb (h0_ HB) hb; clear hb) | ((with_reducible refine gate_dst (N := 3) rfl ?_); refine bE 3 #[.int .i64 0, .int .i64 0] 24 ?_; intro gb315 hg w8 hbox hb; have BK315 := Aside0.mk (hbox); have GE315 := gw hg (h0_ HB); have GW315 := GE315; replace HB := hbb (h0_ HB) hb; clear hb hbox hg; obtain ⟨hcz9_0, hcz9_1, hfz9_0, hfz9_1⟩ := cz2 BK315) | ((with_reducible refine gate_callee (f := 18) rfl ?_); refine gL 19 Try.func18 #[.agg #[.int .i64 t313, .int .i64 t314]] ?_; (with_reducible refine (spec_SpotFar.calls t313 t314 t316 t317 t318 _ A4.out).mono ?_); rintro e w10 ⟨rfl, hb⟩; refine ⟨_, rfl, ?_⟩; replace BK315 := bb (o := .cells #[.int .i64 t313, .int .i64 t314] 24 (0, 0)) (bkp BK315) hb; replace HB := hbb (hs_ HB) hb; clear hb) | ((with_reducible refine gate_dst (N := 4) rfl ?_); refine bE 4 #[.int .i64 0, .int .i64 0] 24 ?_; intro gb319 hg w11 hbox hb; have BK319 := Aside0.mk (hbox); have GE319 := gw hg (hs_ HB); have GW319 := GE319; have NB315_319 := nl hg (bk BK315); have NB319_315 := ng hg (bk BK315); replace BK315 := bb (bk BK315) hb; replace HB := hbb (hs_ HB) hb; clear hb hbox hg; have hnb12 := NB319_315.out; have hnc12 := NB315_319.out; obtain ⟨hcz13_0, hcz13_1, hfz13_0, hfz13_1⟩ := cz2 BK319; obtain ⟨hcz14_0, hcz14_1, hfz14_0, hfz14_1⟩ := cz2 BK315) | ((with_reducible refine gate_callee (f := 19) rfl ?_); refine gL 24 Try.func19 #[.agg #[.int .i64 t313, .int .i64 t314]] ?_; (with_reducible refine (impl_SpotFar.calls t313 t314 t320 t321 t322 _ A5.out).mono ?_); rintro e w15 ⟨rfl, hb⟩; refine ⟨_, rfl, ?_⟩; replace BK315 := bb (bk1 BK315 NB315_319) hb; replace BK319 := bb (o := .cells #[.int .i64 t316, .int .i64 t317] 24 (0, 0)) (bkp BK319) hb; replace HB := hbb (hs_ HB) hb; clear hb) | ((with_reducible refine gate_dst (N := 6) rfl ?_); refine bE 6 #[.int .i64 0, .int .i64 0] 24 ?_; intro gb323 hg w16 hbox hb; have BK323 := Aside0.mk (hbox); have GE323 := gw hg (hs_ HB); have GW323 := GE323; have NB315_323 := nl hg (bk BK315); have NB323_315 := ng hg (bk BK315); have NB319_323 := nl hg (bk BK319); have NB323_319 := ng hg (bk BK319); replace BK315 := bb (bk BK315) hb; replace BK319 := bb (bk BK319) hb; replace HB := hbb (hs_ HB) hb; clear hb hbox hg; have hnb17 := NB323_315.out; have hnc17 := NB315_323.out; have hnb18 := NB323_319.out; have hnc18 := NB319_323.out; obtain ⟨hcz19_0, hcz19_1, hfz19_0, hfz19_1⟩ := cz2 BK323))
  (try simp only [Act.put, List.setIfInBounds_toArray, List.set_cons_zero, List.set_cons_succ])
  go_cut [38] (fun v38 wc => ∃ (kq : Nat) (x38_5 : Bool), v38 = .bool x38_5 ∧ Aside0 (laws_FnSpotFar.j0 kq t318 t322 x38_5 t313 t314 t316 t317 t320 t321 = some r) ∧ Aside0 (kq ≤ k) ∧ Aside0 (wc.heap[gb315]? = some (.cells #[.int .i64 t313, .int .i64 t314] 24 (0, 0))) ∧ Aside0 (wc.heap[gb319]? = some (.cells #[.int .i64 t316, .int .i64 t317] 24 (0, 0))) ∧ Aside0 (wc.heap[gb323]? = some (.cells #[.int .i64 t320, .int .i64 t321] 24 (0, 0))) ∧ Aside0 (Below w.heap.size w wc))
  case first =>
   have H := HC6.out
   clear HC6
   by_cases c20 : (t322 != t318) = true
   ·rw [if_pos c20] at H
    have c20b0 : (t322 != t318) = true := c20
    (try (have c20b1 : decide (t322 = t318) = false := by simpa using c20))
    (try (have c20b2 : (t322 == t318) = false := by simpa using c20))
    (try (have c20b3 : ¬ (t322 = t318) := by simpa using c20))
    clear c20
    (first | rw [c20b0] | (simp only [i64_w, i32_w]; rw [c20b0]) | skip)
    have H' := Aside0.mk H
    clear H
    go_wp2
    go_meet
    case rel => exact ⟨_, (true), (by first | rfl | (simp; done) | (simp [*]; done)), H', ⟨by first | omega | exact Nat.le_refl _⟩, ⟨bk1 BK315 NB315_323⟩, ⟨bk1 BK319 NB319_323⟩, ⟨bkp BK323⟩, ⟨hs_ HB⟩⟩
   ·rw [if_neg c20] at H
    have c20b0 : (t322 != t318) = false := by simpa using c20
    (try (have c20b1 : decide (t322 = t318) = true := by simpa using c20))
    (try (have c20b2 : (t322 == t318) = true := by simpa using c20))
    clear c20
    (first | rw [c20b0] | (simp only [i64_w, i32_w]; rw [c20b0]) | skip)
    by_cases c21 : (!(t320 == t316) || (!(t321 == t317))) = true
    ·rw [if_pos c21] at H
     have c21b0 : (!(t320 == t316) || (!(t321 == t317))) = true := c21
     clear c21
     have H' := Aside0.mk H
     clear H
     have hnb22 := NB323_315.out
     have hnc22 := NB315_323.out
     have hnb23 := NB323_319.out
     have hnc23 := NB319_323.out
     obtain ⟨hcz24_0, hcz24_1, hfz24_0, hfz24_1⟩ := cz2 BK323
     have hnb25 := NB319_315.out
     have hnc25 := NB315_319.out
     obtain ⟨hcz26_0, hcz26_1, hfz26_0, hfz26_1⟩ := cz2 BK319
     go_wp2
     go_meet
     case rel => exact ⟨_, (true), (by first | rfl | (simp; done) | (simp [*]; done)), H', ⟨by first | omega | exact Nat.le_refl _⟩, ⟨bk1 BK315 NB315_323⟩, ⟨bk1 BK319 NB319_323⟩, ⟨bkp BK323⟩, ⟨hs_ HB⟩⟩
    ·rw [if_neg c21] at H
     have c21b0 : (!(t320 == t316) || (!(t321 == t317))) = false := by simpa using c21
     clear c21
     have H' := Aside0.mk H
     clear H
     have hnb27 := NB323_315.out
     have hnc27 := NB315_323.out
     have hnb28 := NB323_319.out
     have hnc28 := NB319_323.out
     obtain ⟨hcz29_0, hcz29_1, hfz29_0, hfz29_1⟩ := cz2 BK323
     have hnb30 := NB319_315.out
     have hnc30 := NB315_319.out
     obtain ⟨hcz31_0, hcz31_1, hfz31_0, hfz31_1⟩ := cz2 BK319
     go_wp2
     go_meet
     case rel => exact ⟨_, (!t322), (by first | rfl | (simp; done) | (simp [*]; done)), H', ⟨by first | omega | exact Nat.le_refl _⟩, ⟨bk1 BK315 NB315_323⟩, ⟨bk1 BK319 NB319_323⟩, ⟨bkp BK323⟩, ⟨hs_ HB⟩⟩
  case rest =>
   clear HC6
   try clear c1
   try clear c2
   try clear c2b0
   try clear c2b1
   try clear p2
   try clear c3
   try clear c12
   try clear c17
   try clear c18
   try clear c19
   try clear c20
   try clear c20b0
   try clear c20b1
   try clear c20b2
   try clear c21
   try clear c21b0
   try clear c22
   try clear c23
   try clear c25
   try clear c27
   try clear c28
   try clear c30
   try clear hcz13_0
   try clear hcz13_1
   try clear hcz14_0
   try clear hcz14_1
   try clear hcz19_0
   try clear hcz19_1
   try clear hcz24_0
   try clear hcz24_1
   try clear hcz26_0
   try clear hcz26_1
   try clear hcz29_0
   try clear hcz29_1
   try clear hcz31_0
   try clear hcz31_1
   try clear hcz9_0
   try clear hcz9_1
   try clear hfz13_0
   try clear hfz13_1
   try clear hfz14_0
   try clear hfz14_1
   try clear hfz19_0
   try clear hfz19_1
   try clear hfz24_0
   try clear hfz24_1
   try clear hfz26_0
   try clear hfz26_1
   try clear hfz29_0
   try clear hfz29_1
   try clear hfz31_0
   try clear hfz31_1
   try clear hfz9_0
   try clear hfz9_1
   obtain ⟨kq, x38_5, rfl, HA, HJ5, BK315, BK319, BK323, HB⟩ := hcut
   cases kq with
   | zero => exact absurd HA.out (by simp [laws_FnSpotFar.j0])
   | succ kj5 =>
    have H := HA.out
    clear HA
    simp only [laws_FnSpotFar.j0] at H
    by_cases c32 : x38_5 = true
    ·subst c32
     have H1 : (if (t322 == t318) = true then (some (t320 == t316 && (t321 == t317))) else (some false)) = some r := by rw [if_pos rfl] at H; exact H
     clear H
     have H := H1
     clear H1
     by_cases c33 : (t322 == t318) = true
     ·rw [if_pos c33] at H
      have c33b0 : (t322 == t318) = true := c33
      (try (have c33b1 : decide (t322 = t318) = true := by simpa using c33))
      (try (have c33b2 : (t322 == t318) = true := by simpa using c33))
      clear c33
      obtain rfl := Option.some.inj H
      have hnb34 := NB323_315.out
      have hnc34 := NB315_323.out
      have hnb35 := NB323_319.out
      have hnc35 := NB319_323.out
      obtain ⟨hcz36_0, hcz36_1, hfz36_0, hfz36_1⟩ := cz2 BK323
      have hnb37 := NB319_315.out
      have hnc37 := NB315_319.out
      obtain ⟨hcz38_0, hcz38_1, hfz38_0, hfz38_1⟩ := cz2 BK319
      go_wp2
      go_ret
      exact ⟨by first | rfl | (simp [errW_none, errW_some] <;> rfl) | (simp [*, errW_none, errW_some] <;> rfl), hs_ HB⟩
     ·rw [if_neg c33] at H
      have c33b0 : (t322 == t318) = false := by simpa using c33
      (try (have c33b1 : decide (t322 = t318) = false := by simpa using c33))
      (try (have c33b2 : (t322 == t318) = false := by simpa using c33))
      (try (have c33b3 : ¬ (t322 = t318) := by simpa using c33))
      clear c33
      obtain rfl := Option.some.inj H
      go_wp2
      go_ret
      exact ⟨by first | rfl | (simp [errW_none, errW_some] <;> rfl) | (simp [*, errW_none, errW_some] <;> rfl), hs_ HB⟩
    ·replace c32 := Bool.eq_false_iff.mpr c32
     subst c32
     have H1 : ((impl_SpotFar.f t320 t321).bind fun bt324 => ((impl_SpotDist.f kj5 t313 t314 t320 t321).bind fun bt328 => ((impl_SpotOk.f t320 t321).bind fun t332 => (if t332 = true then (if bt324.2.2 = true then (if (bt324.1 == t313 && (bt324.2.1 == t314)) = true then (if bt328.2.2 = true then ((impl_FanHas.f bt328.1 bt328.2.1 64800000).bind fun t333 => (some t333)) else (some false)) else (some false)) else (some false)) else (some false))))) = some r := by rw [if_neg (show ¬ (false = true) by decide)] at H; exact H
     clear H
     have H := H1
     clear H1
     replace H := Option.bind_eq_some_iff.mp H
     obtain ⟨⟨t324, t325, t326⟩, A390, H⟩ := H
     replace H : ((impl_SpotDist.f kj5 t313 t314 t320 t321).bind fun bt328 => ((impl_SpotOk.f t320 t321).bind fun t332 => (if t332 = true then (if t326 = true then (if (t324 == t313 && (t325 == t314)) = true then (if bt328.2.2 = true then ((impl_FanHas.f bt328.1 bt328.2.1 64800000).bind fun t333 => (some t333)) else (some false)) else (some false)) else (some false)) else (some false)))) = some r := H
     have A39 := Aside0.mk A390
     clear A390
     replace H := Option.bind_eq_some_iff.mp H
     obtain ⟨⟨t328, t329, t330⟩, A400, H⟩ := H
     replace H : ((impl_SpotOk.f t320 t321).bind fun t332 => (if t332 = true then (if t326 = true then (if (t324 == t313 && (t325 == t314)) = true then (if t330 = true then ((impl_FanHas.f t328 t329 64800000).bind fun t333 => (some t333)) else (some false)) else (some false)) else (some false)) else (some false))) = some r := H
     have A40 := Aside0.mk A400
     clear A400
     replace H := Option.bind_eq_some_iff.mp H
     obtain ⟨t332, A410, H⟩ := H
     replace H : (if t332 = true then (if t326 = true then (if (t324 == t313 && (t325 == t314)) = true then (if t330 = true then ((impl_FanHas.f t328 t329 64800000).bind fun t333 => (some t333)) else (some false)) else (some false)) else (some false)) else (some false)) = some r := H
     have A41 := Aside0.mk A410
     clear A410
     by_cases c42 : t332 = true
     ·subst c42
      have H1 : (if t326 = true then (if (t324 == t313 && (t325 == t314)) = true then (if t330 = true then ((impl_FanHas.f t328 t329 64800000).bind fun t333 => (some t333)) else (some false)) else (some false)) else (some false)) = some r := by rw [if_pos rfl] at H; exact H
      clear H
      have H := H1
      clear H1
      by_cases c43 : t326 = true
      ·subst c43
       have H1 : (if (t324 == t313 && (t325 == t314)) = true then (if t330 = true then ((impl_FanHas.f t328 t329 64800000).bind fun t333 => (some t333)) else (some false)) else (some false)) = some r := by rw [if_pos rfl] at H; exact H
       clear H
       have H := H1
       clear H1
       by_cases c44 : (t324 == t313 && (t325 == t314)) = true
       ·rw [if_pos c44] at H
        have c44b0 : (t324 == t313 && (t325 == t314)) = true := c44
        (try (have c44b1 : decide (t324 = t313 && (t325 == t314)) = true := by simpa using c44))
        (try (have c44b2 : (t324 == t313 && (t325 == t314)) = true := by simpa using c44))
        clear c44
        by_cases c45 : t330 = true
        ·subst c45
         have H1 : ((impl_FanHas.f t328 t329 64800000).bind fun t333 => (some t333)) = some r := by rw [if_pos rfl] at H; exact H
         clear H
         have H := H1
         clear H1
         replace H := Option.bind_eq_some_iff.mp H
         obtain ⟨t333, A460, H⟩ := H
         replace H : (some t333) = some r := H
         have A46 := Aside0.mk A460
         clear A460
         obtain rfl := Option.some.inj H
         have hnb47 := NB323_315.out
         have hnc47 := NB315_323.out
         have hnb48 := NB323_319.out
         have hnc48 := NB319_323.out
         obtain ⟨hcz49_0, hcz49_1, hfz49_0, hfz49_1⟩ := cz2 BK323
         go_wp2_with (first | ((with_reducible refine gate_callee (f := 19) rfl ?_); refine gL 49 Try.func19 #[.agg #[.int .i64 t320, .int .i64 t321]] ?_; (with_reducible refine (impl_SpotFar.calls t320 t321 t324 t325 true _ A39.out).mono ?_); rintro e w50 ⟨rfl, hb⟩; refine ⟨_, rfl, ?_⟩; replace BK315 := bb (bk BK315) hb; replace BK319 := bb (bk BK319) hb; replace BK323 := bb (bk BK323) hb; replace HB := hbb (hs_ HB) hb; clear hb) | ((with_reducible refine gate_dst (N := 8) rfl ?_); refine bE 8 #[.int .i64 0, .int .i64 0] 24 ?_; intro gb327 hg w51 hbox hb; have BK327 := Aside0.mk (hbox); have GE327 := gw hg (hs_ HB); have GW327 := GE327; have NB315_327 := nl hg (bk BK315); have NB327_315 := ng hg (bk BK315); have NB319_327 := nl hg (bk BK319); have NB327_319 := ng hg (bk BK319); have NB323_327 := nl hg (bk BK323); have NB327_323 := ng hg (bk BK323); replace BK315 := bb (bk BK315) hb; replace BK319 := bb (bk BK319) hb; replace BK323 := bb (bk BK323) hb; replace HB := hbb (hs_ HB) hb; clear hb hbox hg; have hnb52 := NB327_315.out; have hnc52 := NB315_327.out; have hnb53 := NB327_319.out; have hnc53 := NB319_327.out; have hnb54 := NB327_323.out; have hnc54 := NB323_327.out; obtain ⟨hcz55_0, hcz55_1, hfz55_0, hfz55_1⟩ := cz2 BK327; have hnb56 := NB315_319.out; have hnc56 := NB319_315.out; obtain ⟨hcz57_0, hcz57_1, hfz57_0, hfz57_1⟩ := cz2 BK315; obtain ⟨hcz58_0, hcz58_1, hfz58_0, hfz58_1⟩ := cz2 BK323) | ((with_reducible refine gate_callee (f := 20) rfl ?_); refine gL 55 Try.func20 #[.agg #[.int .i64 t313, .int .i64 t314], .agg #[.int .i64 t320, .int .i64 t321]] ?_; (with_reducible refine (impl_SpotDist.calls kj5 t313 t314 t320 t321 t328 t329 true _ A40.out).mono ?_); rintro e w59 ⟨rfl, hb⟩; refine ⟨_, rfl, ?_⟩; replace BK315 := bb (bk1 BK315 NB315_327) hb; replace BK319 := bb (bk1 BK319 NB319_327) hb; replace BK323 := bb (bk1 BK323 NB323_327) hb; replace BK327 := bb (o := .cells #[.int .i64 t324, .int .i64 t325] 24 (0, 0)) (bkp BK327) hb; replace HB := hbb (hs_ HB) hb; clear hb) | ((with_reducible refine gate_dst (N := 10) rfl ?_); refine bE 10 #[.int .i64 0, .int .i64 0] 29 ?_; intro gb331 hg w60 hbox hb; have BK331 := Aside0.mk (hbox); have GE331 := gw hg (hs_ HB); have GW331 := GE331; have NB315_331 := nl hg (bk BK315); have NB331_315 := ng hg (bk BK315); have NB319_331 := nl hg (bk BK319); have NB331_319 := ng hg (bk BK319); have NB323_331 := nl hg (bk BK323); have NB331_323 := ng hg (bk BK323); have NB327_331 := nl hg (bk BK327); have NB331_327 := ng hg (bk BK327); replace BK315 := bb (bk BK315) hb; replace BK319 := bb (bk BK319) hb; replace BK323 := bb (bk BK323) hb; replace BK327 := bb (bk BK327) hb; replace HB := hbb (hs_ HB) hb; clear hb hbox hg; have hnb61 := NB331_315.out; have hnc61 := NB315_331.out; have hnb62 := NB331_319.out; have hnc62 := NB319_331.out; have hnb63 := NB331_323.out; have hnc63 := NB323_331.out; have hnb64 := NB331_327.out; have hnc64 := NB327_331.out; obtain ⟨hcz65_0, hcz65_1, hfz65_0, hfz65_1⟩ := cz2 BK331; obtain ⟨hcz66_0, hcz66_1, hfz66_0, hfz66_1⟩ := cz2 BK323) | ((with_reducible refine gate_callee (f := 21) rfl ?_); refine gL 59 Try.func21 #[.agg #[.int .i64 t320, .int .i64 t321]] ?_; (with_reducible refine (impl_SpotOk.calls t320 t321 true _ A41.out).mono ?_); rintro e w67 ⟨rfl, hb⟩; refine ⟨_, rfl, ?_⟩; replace BK315 := bb (bk1 BK315 NB315_331) hb; replace BK319 := bb (bk1 BK319 NB319_331) hb; replace BK323 := bb (bk1 BK323 NB323_331) hb; replace BK327 := bb (bk1 BK327 NB327_331) hb; replace BK331 := bb (o := .cells #[.int .i64 t328, .int .i64 t329] 29 (0, 0)) (bkp BK331) hb; replace HB := hbb (hs_ HB) hb; clear hb; obtain ⟨hcz68_0, hcz68_1, hfz68_0, hfz68_1⟩ := cz2 BK327; obtain ⟨hcz69_0, hcz69_1, hfz69_0, hfz69_1⟩ := cz2 BK315; obtain ⟨hcz70_0, hcz70_1, hfz70_0, hfz70_1⟩ := cz2 BK331) | (go_at_call 22; (with_reducible refine (impl_FanHas.calls t328 t329 64800000 t333 _ A46.out).mono ?_); rintro e w71 ⟨rfl, hb⟩; replace BK315 := bb (bk BK315) hb; replace BK319 := bb (bk BK319) hb; replace BK323 := bb (bk BK323) hb; replace BK327 := bb (bk BK327) hb; replace BK331 := bb (bk BK331) hb; replace HB := hbb (hs_ HB) hb; clear hb))
         go_ret
         exact ⟨by first | rfl | (simp [errW_none, errW_some] <;> rfl) | (simp [*, errW_none, errW_some] <;> rfl), hs_ HB⟩
        ·replace c45 := Bool.eq_false_iff.mpr c45
         subst c45
         have H1 : (some false) = some r := by rw [if_neg (show ¬ (false = true) by decide)] at H; exact H
         clear H
         have H := H1
         clear H1
         obtain rfl := Option.some.inj H
         have hnb72 := NB323_315.out
         have hnc72 := NB315_323.out
         have hnb73 := NB323_319.out
         have hnc73 := NB319_323.out
         obtain ⟨hcz74_0, hcz74_1, hfz74_0, hfz74_1⟩ := cz2 BK323
         go_wp2_with (first | ((with_reducible refine gate_callee (f := 19) rfl ?_); refine gL 49 Try.func19 #[.agg #[.int .i64 t320, .int .i64 t321]] ?_; (with_reducible refine (impl_SpotFar.calls t320 t321 t324 t325 true _ A39.out).mono ?_); rintro e w75 ⟨rfl, hb⟩; refine ⟨_, rfl, ?_⟩; replace BK315 := bb (bk BK315) hb; replace BK319 := bb (bk BK319) hb; replace BK323 := bb (bk BK323) hb; replace HB := hbb (hs_ HB) hb; clear hb) | ((with_reducible refine gate_dst (N := 8) rfl ?_); refine bE 8 #[.int .i64 0, .int .i64 0] 24 ?_; intro gb327 hg w76 hbox hb; have BK327 := Aside0.mk (hbox); have GE327 := gw hg (hs_ HB); have GW327 := GE327; have NB315_327 := nl hg (bk BK315); have NB327_315 := ng hg (bk BK315); have NB319_327 := nl hg (bk BK319); have NB327_319 := ng hg (bk BK319); have NB323_327 := nl hg (bk BK323); have NB327_323 := ng hg (bk BK323); replace BK315 := bb (bk BK315) hb; replace BK319 := bb (bk BK319) hb; replace BK323 := bb (bk BK323) hb; replace HB := hbb (hs_ HB) hb; clear hb hbox hg; have hnb77 := NB327_315.out; have hnc77 := NB315_327.out; have hnb78 := NB327_319.out; have hnc78 := NB319_327.out; have hnb79 := NB327_323.out; have hnc79 := NB323_327.out; obtain ⟨hcz80_0, hcz80_1, hfz80_0, hfz80_1⟩ := cz2 BK327; have hnb81 := NB315_319.out; have hnc81 := NB319_315.out; obtain ⟨hcz82_0, hcz82_1, hfz82_0, hfz82_1⟩ := cz2 BK315; obtain ⟨hcz83_0, hcz83_1, hfz83_0, hfz83_1⟩ := cz2 BK323) | ((with_reducible refine gate_callee (f := 20) rfl ?_); refine gL 55 Try.func20 #[.agg #[.int .i64 t313, .int .i64 t314], .agg #[.int .i64 t320, .int .i64 t321]] ?_; (with_reducible refine (impl_SpotDist.calls kj5 t313 t314 t320 t321 t328 t329 false _ A40.out).mono ?_); rintro e w84 ⟨rfl, hb⟩; refine ⟨_, rfl, ?_⟩; replace BK315 := bb (bk1 BK315 NB315_327) hb; replace BK319 := bb (bk1 BK319 NB319_327) hb; replace BK323 := bb (bk1 BK323 NB323_327) hb; replace BK327 := bb (o := .cells #[.int .i64 t324, .int .i64 t325] 24 (0, 0)) (bkp BK327) hb; replace HB := hbb (hs_ HB) hb; clear hb) | ((with_reducible refine gate_dst (N := 10) rfl ?_); refine bE 10 #[.int .i64 0, .int .i64 0] 29 ?_; intro gb331 hg w85 hbox hb; have BK331 := Aside0.mk (hbox); have GE331 := gw hg (hs_ HB); have GW331 := GE331; have NB315_331 := nl hg (bk BK315); have NB331_315 := ng hg (bk BK315); have NB319_331 := nl hg (bk BK319); have NB331_319 := ng hg (bk BK319); have NB323_331 := nl hg (bk BK323); have NB331_323 := ng hg (bk BK323); have NB327_331 := nl hg (bk BK327); have NB331_327 := ng hg (bk BK327); replace BK315 := bb (bk BK315) hb; replace BK319 := bb (bk BK319) hb; replace BK323 := bb (bk BK323) hb; replace BK327 := bb (bk BK327) hb; replace HB := hbb (hs_ HB) hb; clear hb hbox hg; have hnb86 := NB331_315.out; have hnc86 := NB315_331.out; have hnb87 := NB331_319.out; have hnc87 := NB319_331.out; have hnb88 := NB331_323.out; have hnc88 := NB323_331.out; have hnb89 := NB331_327.out; have hnc89 := NB327_331.out; obtain ⟨hcz90_0, hcz90_1, hfz90_0, hfz90_1⟩ := cz2 BK331; obtain ⟨hcz91_0, hcz91_1, hfz91_0, hfz91_1⟩ := cz2 BK323) | ((with_reducible refine gate_callee (f := 21) rfl ?_); refine gL 59 Try.func21 #[.agg #[.int .i64 t320, .int .i64 t321]] ?_; (with_reducible refine (impl_SpotOk.calls t320 t321 true _ A41.out).mono ?_); rintro e w92 ⟨rfl, hb⟩; refine ⟨_, rfl, ?_⟩; replace BK315 := bb (bk1 BK315 NB315_331) hb; replace BK319 := bb (bk1 BK319 NB319_331) hb; replace BK323 := bb (bk1 BK323 NB323_331) hb; replace BK327 := bb (bk1 BK327 NB327_331) hb; replace BK331 := bb (o := .cells #[.int .i64 t328, .int .i64 t329] 29 (0, 0)) (bkp BK331) hb; replace HB := hbb (hs_ HB) hb; clear hb; obtain ⟨hcz93_0, hcz93_1, hfz93_0, hfz93_1⟩ := cz2 BK327; obtain ⟨hcz94_0, hcz94_1, hfz94_0, hfz94_1⟩ := cz2 BK315))
         go_ret
         exact ⟨by first | rfl | (simp [errW_none, errW_some] <;> rfl) | (simp [*, errW_none, errW_some] <;> rfl), hs_ HB⟩
       ·rw [if_neg c44] at H
        have c44b0 : (t324 == t313 && (t325 == t314)) = false := by simpa using c44
        (try (have c44b1 : decide (t324 = t313 && (t325 == t314)) = false := by simpa using c44))
        (try (have c44b2 : (t324 == t313 && (t325 == t314)) = false := by simpa using c44))
        (try (have c44b3 : ¬ (t324 = t313 && (t325 == t314)) := by simpa using c44))
        clear c44
        obtain rfl := Option.some.inj H
        have hnb95 := NB323_315.out
        have hnc95 := NB315_323.out
        have hnb96 := NB323_319.out
        have hnc96 := NB319_323.out
        obtain ⟨hcz97_0, hcz97_1, hfz97_0, hfz97_1⟩ := cz2 BK323
        go_wp2_with (first | ((with_reducible refine gate_callee (f := 19) rfl ?_); refine gL 49 Try.func19 #[.agg #[.int .i64 t320, .int .i64 t321]] ?_; (with_reducible refine (impl_SpotFar.calls t320 t321 t324 t325 true _ A39.out).mono ?_); rintro e w98 ⟨rfl, hb⟩; refine ⟨_, rfl, ?_⟩; replace BK315 := bb (bk BK315) hb; replace BK319 := bb (bk BK319) hb; replace BK323 := bb (bk BK323) hb; replace HB := hbb (hs_ HB) hb; clear hb) | ((with_reducible refine gate_dst (N := 8) rfl ?_); refine bE 8 #[.int .i64 0, .int .i64 0] 24 ?_; intro gb327 hg w99 hbox hb; have BK327 := Aside0.mk (hbox); have GE327 := gw hg (hs_ HB); have GW327 := GE327; have NB315_327 := nl hg (bk BK315); have NB327_315 := ng hg (bk BK315); have NB319_327 := nl hg (bk BK319); have NB327_319 := ng hg (bk BK319); have NB323_327 := nl hg (bk BK323); have NB327_323 := ng hg (bk BK323); replace BK315 := bb (bk BK315) hb; replace BK319 := bb (bk BK319) hb; replace BK323 := bb (bk BK323) hb; replace HB := hbb (hs_ HB) hb; clear hb hbox hg; have hnb100 := NB327_315.out; have hnc100 := NB315_327.out; have hnb101 := NB327_319.out; have hnc101 := NB319_327.out; have hnb102 := NB327_323.out; have hnc102 := NB323_327.out; obtain ⟨hcz103_0, hcz103_1, hfz103_0, hfz103_1⟩ := cz2 BK327; have hnb104 := NB315_319.out; have hnc104 := NB319_315.out; obtain ⟨hcz105_0, hcz105_1, hfz105_0, hfz105_1⟩ := cz2 BK315; obtain ⟨hcz106_0, hcz106_1, hfz106_0, hfz106_1⟩ := cz2 BK323) | ((with_reducible refine gate_callee (f := 20) rfl ?_); refine gL 55 Try.func20 #[.agg #[.int .i64 t313, .int .i64 t314], .agg #[.int .i64 t320, .int .i64 t321]] ?_; (with_reducible refine (impl_SpotDist.calls kj5 t313 t314 t320 t321 t328 t329 t330 _ A40.out).mono ?_); rintro e w107 ⟨rfl, hb⟩; refine ⟨_, rfl, ?_⟩; replace BK315 := bb (bk1 BK315 NB315_327) hb; replace BK319 := bb (bk1 BK319 NB319_327) hb; replace BK323 := bb (bk1 BK323 NB323_327) hb; replace BK327 := bb (o := .cells #[.int .i64 t324, .int .i64 t325] 24 (0, 0)) (bkp BK327) hb; replace HB := hbb (hs_ HB) hb; clear hb) | ((with_reducible refine gate_dst (N := 10) rfl ?_); refine bE 10 #[.int .i64 0, .int .i64 0] 29 ?_; intro gb331 hg w108 hbox hb; have BK331 := Aside0.mk (hbox); have GE331 := gw hg (hs_ HB); have GW331 := GE331; have NB315_331 := nl hg (bk BK315); have NB331_315 := ng hg (bk BK315); have NB319_331 := nl hg (bk BK319); have NB331_319 := ng hg (bk BK319); have NB323_331 := nl hg (bk BK323); have NB331_323 := ng hg (bk BK323); have NB327_331 := nl hg (bk BK327); have NB331_327 := ng hg (bk BK327); replace BK315 := bb (bk BK315) hb; replace BK319 := bb (bk BK319) hb; replace BK323 := bb (bk BK323) hb; replace BK327 := bb (bk BK327) hb; replace HB := hbb (hs_ HB) hb; clear hb hbox hg; have hnb109 := NB331_315.out; have hnc109 := NB315_331.out; have hnb110 := NB331_319.out; have hnc110 := NB319_331.out; have hnb111 := NB331_323.out; have hnc111 := NB323_331.out; have hnb112 := NB331_327.out; have hnc112 := NB327_331.out; obtain ⟨hcz113_0, hcz113_1, hfz113_0, hfz113_1⟩ := cz2 BK331; obtain ⟨hcz114_0, hcz114_1, hfz114_0, hfz114_1⟩ := cz2 BK323) | ((with_reducible refine gate_callee (f := 21) rfl ?_); refine gL 59 Try.func21 #[.agg #[.int .i64 t320, .int .i64 t321]] ?_; (with_reducible refine (impl_SpotOk.calls t320 t321 true _ A41.out).mono ?_); rintro e w115 ⟨rfl, hb⟩; refine ⟨_, rfl, ?_⟩; replace BK315 := bb (bk1 BK315 NB315_331) hb; replace BK319 := bb (bk1 BK319 NB319_331) hb; replace BK323 := bb (bk1 BK323 NB323_331) hb; replace BK327 := bb (bk1 BK327 NB327_331) hb; replace BK331 := bb (o := .cells #[.int .i64 t328, .int .i64 t329] 29 (0, 0)) (bkp BK331) hb; replace HB := hbb (hs_ HB) hb; clear hb; obtain ⟨hcz116_0, hcz116_1, hfz116_0, hfz116_1⟩ := cz2 BK327; obtain ⟨hcz117_0, hcz117_1, hfz117_0, hfz117_1⟩ := cz2 BK315))
        go_ret
        exact ⟨by first | rfl | (simp [errW_none, errW_some] <;> rfl) | (simp [*, errW_none, errW_some] <;> rfl), hs_ HB⟩
      ·replace c43 := Bool.eq_false_iff.mpr c43
       subst c43
       have H1 : (some false) = some r := by rw [if_neg (show ¬ (false = true) by decide)] at H; exact H
       clear H
       have H := H1
       clear H1
       obtain rfl := Option.some.inj H
       have hnb118 := NB323_315.out
       have hnc118 := NB315_323.out
       have hnb119 := NB323_319.out
       have hnc119 := NB319_323.out
       obtain ⟨hcz120_0, hcz120_1, hfz120_0, hfz120_1⟩ := cz2 BK323
       go_wp2_with (first | ((with_reducible refine gate_callee (f := 19) rfl ?_); refine gL 49 Try.func19 #[.agg #[.int .i64 t320, .int .i64 t321]] ?_; (with_reducible refine (impl_SpotFar.calls t320 t321 t324 t325 false _ A39.out).mono ?_); rintro e w121 ⟨rfl, hb⟩; refine ⟨_, rfl, ?_⟩; replace BK315 := bb (bk BK315) hb; replace BK319 := bb (bk BK319) hb; replace BK323 := bb (bk BK323) hb; replace HB := hbb (hs_ HB) hb; clear hb) | ((with_reducible refine gate_dst (N := 8) rfl ?_); refine bE 8 #[.int .i64 0, .int .i64 0] 24 ?_; intro gb327 hg w122 hbox hb; have BK327 := Aside0.mk (hbox); have GE327 := gw hg (hs_ HB); have GW327 := GE327; have NB315_327 := nl hg (bk BK315); have NB327_315 := ng hg (bk BK315); have NB319_327 := nl hg (bk BK319); have NB327_319 := ng hg (bk BK319); have NB323_327 := nl hg (bk BK323); have NB327_323 := ng hg (bk BK323); replace BK315 := bb (bk BK315) hb; replace BK319 := bb (bk BK319) hb; replace BK323 := bb (bk BK323) hb; replace HB := hbb (hs_ HB) hb; clear hb hbox hg; have hnb123 := NB327_315.out; have hnc123 := NB315_327.out; have hnb124 := NB327_319.out; have hnc124 := NB319_327.out; have hnb125 := NB327_323.out; have hnc125 := NB323_327.out; obtain ⟨hcz126_0, hcz126_1, hfz126_0, hfz126_1⟩ := cz2 BK327; have hnb127 := NB315_319.out; have hnc127 := NB319_315.out; obtain ⟨hcz128_0, hcz128_1, hfz128_0, hfz128_1⟩ := cz2 BK315; obtain ⟨hcz129_0, hcz129_1, hfz129_0, hfz129_1⟩ := cz2 BK323) | ((with_reducible refine gate_callee (f := 20) rfl ?_); refine gL 55 Try.func20 #[.agg #[.int .i64 t313, .int .i64 t314], .agg #[.int .i64 t320, .int .i64 t321]] ?_; (with_reducible refine (impl_SpotDist.calls kj5 t313 t314 t320 t321 t328 t329 t330 _ A40.out).mono ?_); rintro e w130 ⟨rfl, hb⟩; refine ⟨_, rfl, ?_⟩; replace BK315 := bb (bk1 BK315 NB315_327) hb; replace BK319 := bb (bk1 BK319 NB319_327) hb; replace BK323 := bb (bk1 BK323 NB323_327) hb; replace BK327 := bb (o := .cells #[.int .i64 t324, .int .i64 t325] 24 (0, 0)) (bkp BK327) hb; replace HB := hbb (hs_ HB) hb; clear hb) | ((with_reducible refine gate_dst (N := 10) rfl ?_); refine bE 10 #[.int .i64 0, .int .i64 0] 29 ?_; intro gb331 hg w131 hbox hb; have BK331 := Aside0.mk (hbox); have GE331 := gw hg (hs_ HB); have GW331 := GE331; have NB315_331 := nl hg (bk BK315); have NB331_315 := ng hg (bk BK315); have NB319_331 := nl hg (bk BK319); have NB331_319 := ng hg (bk BK319); have NB323_331 := nl hg (bk BK323); have NB331_323 := ng hg (bk BK323); have NB327_331 := nl hg (bk BK327); have NB331_327 := ng hg (bk BK327); replace BK315 := bb (bk BK315) hb; replace BK319 := bb (bk BK319) hb; replace BK323 := bb (bk BK323) hb; replace BK327 := bb (bk BK327) hb; replace HB := hbb (hs_ HB) hb; clear hb hbox hg; have hnb132 := NB331_315.out; have hnc132 := NB315_331.out; have hnb133 := NB331_319.out; have hnc133 := NB319_331.out; have hnb134 := NB331_323.out; have hnc134 := NB323_331.out; have hnb135 := NB331_327.out; have hnc135 := NB327_331.out; obtain ⟨hcz136_0, hcz136_1, hfz136_0, hfz136_1⟩ := cz2 BK331; obtain ⟨hcz137_0, hcz137_1, hfz137_0, hfz137_1⟩ := cz2 BK323) | ((with_reducible refine gate_callee (f := 21) rfl ?_); refine gL 59 Try.func21 #[.agg #[.int .i64 t320, .int .i64 t321]] ?_; (with_reducible refine (impl_SpotOk.calls t320 t321 true _ A41.out).mono ?_); rintro e w138 ⟨rfl, hb⟩; refine ⟨_, rfl, ?_⟩; replace BK315 := bb (bk1 BK315 NB315_331) hb; replace BK319 := bb (bk1 BK319 NB319_331) hb; replace BK323 := bb (bk1 BK323 NB323_331) hb; replace BK327 := bb (bk1 BK327 NB327_331) hb; replace BK331 := bb (o := .cells #[.int .i64 t328, .int .i64 t329] 29 (0, 0)) (bkp BK331) hb; replace HB := hbb (hs_ HB) hb; clear hb))
       go_ret
       exact ⟨by first | rfl | (simp [errW_none, errW_some] <;> rfl) | (simp [*, errW_none, errW_some] <;> rfl), hs_ HB⟩
     ·replace c42 := Bool.eq_false_iff.mpr c42
      subst c42
      have H1 : (some false) = some r := by rw [if_neg (show ¬ (false = true) by decide)] at H; exact H
      clear H
      have H := H1
      clear H1
      obtain rfl := Option.some.inj H
      have hnb139 := NB323_315.out
      have hnc139 := NB315_323.out
      have hnb140 := NB323_319.out
      have hnc140 := NB319_323.out
      obtain ⟨hcz141_0, hcz141_1, hfz141_0, hfz141_1⟩ := cz2 BK323
      go_wp2_with (first | ((with_reducible refine gate_callee (f := 19) rfl ?_); refine gL 49 Try.func19 #[.agg #[.int .i64 t320, .int .i64 t321]] ?_; (with_reducible refine (impl_SpotFar.calls t320 t321 t324 t325 t326 _ A39.out).mono ?_); rintro e w142 ⟨rfl, hb⟩; refine ⟨_, rfl, ?_⟩; replace BK315 := bb (bk BK315) hb; replace BK319 := bb (bk BK319) hb; replace BK323 := bb (bk BK323) hb; replace HB := hbb (hs_ HB) hb; clear hb) | ((with_reducible refine gate_dst (N := 8) rfl ?_); refine bE 8 #[.int .i64 0, .int .i64 0] 24 ?_; intro gb327 hg w143 hbox hb; have BK327 := Aside0.mk (hbox); have GE327 := gw hg (hs_ HB); have GW327 := GE327; have NB315_327 := nl hg (bk BK315); have NB327_315 := ng hg (bk BK315); have NB319_327 := nl hg (bk BK319); have NB327_319 := ng hg (bk BK319); have NB323_327 := nl hg (bk BK323); have NB327_323 := ng hg (bk BK323); replace BK315 := bb (bk BK315) hb; replace BK319 := bb (bk BK319) hb; replace BK323 := bb (bk BK323) hb; replace HB := hbb (hs_ HB) hb; clear hb hbox hg; have hnb144 := NB327_315.out; have hnc144 := NB315_327.out; have hnb145 := NB327_319.out; have hnc145 := NB319_327.out; have hnb146 := NB327_323.out; have hnc146 := NB323_327.out; obtain ⟨hcz147_0, hcz147_1, hfz147_0, hfz147_1⟩ := cz2 BK327; have hnb148 := NB315_319.out; have hnc148 := NB319_315.out; obtain ⟨hcz149_0, hcz149_1, hfz149_0, hfz149_1⟩ := cz2 BK315; obtain ⟨hcz150_0, hcz150_1, hfz150_0, hfz150_1⟩ := cz2 BK323) | ((with_reducible refine gate_callee (f := 20) rfl ?_); refine gL 55 Try.func20 #[.agg #[.int .i64 t313, .int .i64 t314], .agg #[.int .i64 t320, .int .i64 t321]] ?_; (with_reducible refine (impl_SpotDist.calls kj5 t313 t314 t320 t321 t328 t329 t330 _ A40.out).mono ?_); rintro e w151 ⟨rfl, hb⟩; refine ⟨_, rfl, ?_⟩; replace BK315 := bb (bk1 BK315 NB315_327) hb; replace BK319 := bb (bk1 BK319 NB319_327) hb; replace BK323 := bb (bk1 BK323 NB323_327) hb; replace BK327 := bb (o := .cells #[.int .i64 t324, .int .i64 t325] 24 (0, 0)) (bkp BK327) hb; replace HB := hbb (hs_ HB) hb; clear hb) | ((with_reducible refine gate_dst (N := 10) rfl ?_); refine bE 10 #[.int .i64 0, .int .i64 0] 29 ?_; intro gb331 hg w152 hbox hb; have BK331 := Aside0.mk (hbox); have GE331 := gw hg (hs_ HB); have GW331 := GE331; have NB315_331 := nl hg (bk BK315); have NB331_315 := ng hg (bk BK315); have NB319_331 := nl hg (bk BK319); have NB331_319 := ng hg (bk BK319); have NB323_331 := nl hg (bk BK323); have NB331_323 := ng hg (bk BK323); have NB327_331 := nl hg (bk BK327); have NB331_327 := ng hg (bk BK327); replace BK315 := bb (bk BK315) hb; replace BK319 := bb (bk BK319) hb; replace BK323 := bb (bk BK323) hb; replace BK327 := bb (bk BK327) hb; replace HB := hbb (hs_ HB) hb; clear hb hbox hg; have hnb153 := NB331_315.out; have hnc153 := NB315_331.out; have hnb154 := NB331_319.out; have hnc154 := NB319_331.out; have hnb155 := NB331_323.out; have hnc155 := NB323_331.out; have hnb156 := NB331_327.out; have hnc156 := NB327_331.out; obtain ⟨hcz157_0, hcz157_1, hfz157_0, hfz157_1⟩ := cz2 BK331; obtain ⟨hcz158_0, hcz158_1, hfz158_0, hfz158_1⟩ := cz2 BK323) | ((with_reducible refine gate_callee (f := 21) rfl ?_); refine gL 59 Try.func21 #[.agg #[.int .i64 t320, .int .i64 t321]] ?_; (with_reducible refine (impl_SpotOk.calls t320 t321 false _ A41.out).mono ?_); rintro e w159 ⟨rfl, hb⟩; refine ⟨_, rfl, ?_⟩; replace BK315 := bb (bk1 BK315 NB315_331) hb; replace BK319 := bb (bk1 BK319 NB319_331) hb; replace BK323 := bb (bk1 BK323 NB323_331) hb; replace BK327 := bb (bk1 BK327 NB327_331) hb; replace BK331 := bb (o := .cells #[.int .i64 t328, .int .i64 t329] 29 (0, 0)) (bkp BK331) hb; replace HB := hbb (hs_ HB) hb; clear hb))
      go_ret
      exact ⟨by first | rfl | (simp [errW_none, errW_some] <;> rfl) | (simp [*, errW_none, errW_some] <;> rfl), hs_ HB⟩


theorem drawSpotFar_tells {l : List Int} (hl : Bytes l) {k : Nat} (hk : 20 ≤ k) : ∃ u a, spec_DrawSpotFar.f k l = some (u, a) := by
 unfold spec_DrawSpotFar.f
 obtain ⟨b, h1, h2, h3⟩ := open_tells hl
 rw [h1]; simp only [Option.bind_some]
 obtain ⟨u, a, p, q1, q2, q3⟩ := spot_tells h2 h3 (show (0 : Int) ≤ 0 by omega) (by omega) hk
 rw [q1]; simp only [Option.bind_some]
 exact ⟨_, _, rfl⟩
theorem distR_in {pu pa qu qa : Int} (h : (Up pu ∧ Ar pa) ∧ (Up qu ∧ Ar qa)) : distR pu pa qu qa = ((distOf (squareM pu pa qu qa)).1, (distOf (squareM pu pa qu qa)).2, true) := if_pos h
theorem distR_out {pu pa qu qa : Int} (h : ¬ ((Up pu ∧ Ar pa) ∧ (Up qu ∧ Ar qa))) : distR pu pa qu qa = (0, 0, false) := if_neg h
theorem FnSpotFar_pure {l0 : List Int} (hl : Bytes l0) {k : Nat} (hk : 300 ≤ k) : laws_FnSpotFar.f (k + 1) l0 = some true := by
 unfold laws_FnSpotFar.f
 by_cases h : (l0.length : Int) > 1048576
 ·rw [if_pos h]
 rw [if_neg h]
 obtain ⟨u, a, hd⟩ := drawSpotFar_tells hl (k := k + 1) (by omega)
 obtain ⟨i1, i2⟩ := SpotFar_is u a
 rw [hd]; simp only [Option.bind_some]
 rw [i1, i2]
 by_cases hin : Up u ∧ Ar a
 ·have e : farR u a = (-u, farA a, true) := if_pos hin
  rw [e]
  simp only [Option.bind_some, bne_self_eq_false, beq_self_eq_true, Bool.not_true, Bool.not_false, Bool.or_false, Bool.or_self, Bool.and_self, Bool.false_eq_true, if_false, if_true]
  rw [laws_FnSpotFar.j0]
  simp only [Bool.false_eq_true, if_false]
  have hu : Up (-u) := ⟨by have := hin.1.2; omega, by have := hin.1.1; omega⟩
  have e2 : farR (-u) (farA a) = (u, a, true) := by
   have x : farR (-u) (farA a) = (- -u, farA (farA a), true) := if_pos ⟨hu, far_ar a⟩
   have h1 := hin.2.1
   have h2 := hin.2.2
   have y : farA (farA a) = a := by unfold farA; omega
   rw [x, y, Int.neg_neg]
  rw [(SpotFar_is (-u) (farA a)).1, e2, (SpotDist_is u a (-u) (farA a) (by omega)).1, distR_in ⟨hin, hu, far_ar a⟩, (SpotOk_is (-u) (farA a)).1]
  have ok : decide (Up (-u) ∧ Ar (farA a)) = true := decide_eq_true ⟨hu, far_ar a⟩
  have ut := (square_parts hin.1 hu a (farA a)).2.2
  have s := (square_far hin.1 hin.1 hin.2 hin.2).2
  rw [square_same ⟨rfl, .inl rfl⟩] at s
  have w := dist_whole ut (by have := ut.2.2; simp only [Int.zero_add] at s; omega)
  have d := dist_ends ut
  simp only [Option.bind_some, ok, if_true, beq_self_eq_true, Bool.and_self]
  rw [FanHas_is (by omega) d.2.1 (by omega)]
  have f : decide ((distOf (squareM u a (-u) (farA a))).1 ≤ 64800000 ∧ 64800000 ≤ (distOf (squareM u a (-u) (farA a))).2) = true := decide_eq_true ⟨w.1, by omega⟩
  rw [f]
  rfl
 ·have e : farR u a = (0, 0, false) := if_neg hin
  rw [e]
  simp [laws_FnSpotFar.j0]
theorem FnSpotFar_true (A0 : Option Addr) (c0 : Nat) (l0 : List Int) (w : World) (hr0 : Kd.C (Kd.int .u8) w A0 l0.length l0) (hc0 : l0.length ≤ c0) (hw0 : ∀ x ∈ l0, (Lit.int .u8 x).wf = true) :
  Calls Try.prog 3 #[.slice A0 l0.length c0] w fun e w' => e = .returned (.bool true) ∧ Below w.heap.size w w' :=
 laws_FnSpotFar.calls 301 A0 c0 l0 true w hr0 hc0 (FnSpotFar_pure (bytes_of hw0) (by omega))

end Go.Proofs.Ytmcippkpgmehdaa.M
