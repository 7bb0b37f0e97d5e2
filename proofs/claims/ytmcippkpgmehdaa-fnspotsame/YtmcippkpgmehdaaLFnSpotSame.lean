import Derived.Test.YtmcippkpgmehdaaP7
import Derived.Test.YtmcippkpgmehdaaP8
import Derived.Test.YtmcippkpgmehdaaP9
import Derived.Test.YtmcippkpgmehdaaDi
namespace Go.Proofs.Ytmcippkpgmehdaa.M
open Go.RowKit Go.Proofs.YtmcippkpgmehdaaW.PrintWords Go.Proofs.YtmcippkpgmehdaaW.PrintLast Go.Proofs.YtmcippkpgmehdaaW.PrintMore
attribute [local go_sem] max2_int min2_int max_two min_two max_three min_three max_four min_four
attribute [local go_sem high] eqA42 eqA29 eqA24
attribute [local go_sem] fld42_0 fld42_1 fld29_0 fld29_1 fld24_0 fld24_1 fld38_0 fld38_1 fld88_0 fld88_1 fld88_2 fld88_3 fld88_4
set_option linter.unusedVariables false
set_option linter.unusedSimpArgs false
/-! ### laws_FnSpotSame: function 4 -/
def laws_FnSpotSame.j0 : Nat → Bool → Bool → Int → Int → Int → Int → Option (Bool)
 | 0, _, _, _, _, _, _ => none
 | k + 1, x5, x30, x348000, x348001, x349000, x349001 => if x30 = true then (some false) else ((impl_SpotDist.f k x348000 x348001 x349000 x349001).bind fun bt352 => ((impl_SpotSame.f x348000 x348001 x348000 x348001).bind fun t356 => ((spec_SpotOk.f x348000 x348001).bind fun t357 => (if (t356 == t357) = true then (if x5 = true then (if bt352.2.2 = true then (if bt352.1 = 0 then (some (x348000 == x349000)) else (some false)) else (some false)) else (some true)) else (some false)))))
def laws_FnSpotSame.f (k : Nat) (l0 : List Int) : Option (Bool) := if (l0.length : Int) > 1048576 then (some true) else ((spec_DrawSpotSame.f k l0).bind fun bt343 => ((impl_SpotSame.f bt343.1 bt343.2.1 bt343.2.2.1 bt343.2.2.2).bind fun t349 => ((spec_SpotSame.f bt343.1 bt343.2.1 bt343.2.2.1 bt343.2.2.2).bind fun t350 => (if (t349 != t350) = true then (laws_FnSpotSame.j0 k t349 true bt343.1 bt343.2.1 bt343.2.2.1 bt343.2.2.2) else ((impl_SpotSame.f bt343.2.2.1 bt343.2.2.2 bt343.1 bt343.2.1).bind fun t351 => (laws_FnSpotSame.j0 k t349 (t351 != t349) bt343.1 bt343.2.1 bt343.2.2.1 bt343.2.2.2))))))
def laws_FnSpotSame.T8 : Bool × List (List Nat × List Nat) := (true, [([], []), ([], []), ([0, 1], [0, 1]), ([], []), ([3, 2], [3]), ([2, 4], [2, 4]), ([5, 4], [5]), ([6], [6]), ([7, 6], [6, 7]), ([8, 6, 6], [6, 8]), ([9], [9]), ([10, 9, 9], [9, 10]), ([11], [11]), ([12, 11], [11, 12]), ([13, 11], [11, 13]), ([11, 14, 9], [9, 11, 14]), ([15, 11, 9], [9, 15]), ([16], [16]), ([17, 16], [16, 17]), ([16], [16]), ([19, 16], [16, 19]), ([18, 20, 16], [16, 18, 20]), ([16, 21, 9], [9, 16, 21]), ([9, 22, 6], [6, 9, 22]), ([6, 23], [6, 23]), ([24, 16, 0, 1, 2, 3, 4, 5, 6, 7, 8, 9, 10, 11, 12, 13, 14, 15, 16, 17, 18, 19, 20, 21, 22, 23, 24], [24])])
def laws_FnSpotSame.B8 : List Nat := [0, 0, 3, 0, 15, 31, 63, 127, 255, 511, 1023, 2047, 4095, 8191, 16383, 32767, 65535, 131071, 262143, 131071, 655359, 2097151, 4194303, 8388607, 16777215, 33554431]
theorem laws_FnSpotSame.tab8 : rtab .any (opsOf Try.f4 8) = laws_FnSpotSame.T8 := by kernel_rfl
theorem laws_FnSpotSame.bits8 : waitsOk laws_FnSpotSame.T8.2 laws_FnSpotSame.B8 = true := by kernel_rfl
set_option maxHeartbeats 8000000 in
set_option maxRecDepth 100000 in
theorem laws_FnSpotSame.calls (k : Nat) (A0 : Option Addr) (c0 : Nat) (l0 : List Int) (r : Bool) (w : World) (hr0 : Kd.C (Kd.int .u8) w A0 l0.length l0) (hc0 : l0.length ≤ c0) (h : laws_FnSpotSame.f k l0 = some r) :
  Calls Try.prog 4 #[.slice A0 l0.length c0] w fun e w' => e = .returned (.bool r) ∧ Below w.heap.size w w' := by
 have hu24 := Try.underlying24
 have hu29 := Try.underlying29
 have HR0 := Aside0.mk hr0
 have HC0 := Aside0.mk hc0
 clear hr0 hc0
 have HB := Aside0.mk (Below.refl w.heap.size w)
 have H : (if (l0.length : Int) > 1048576 then (some true) else ((spec_DrawSpotSame.f k l0).bind fun bt343 => ((impl_SpotSame.f bt343.1 bt343.2.1 bt343.2.2.1 bt343.2.2.2).bind fun t349 => ((spec_SpotSame.f bt343.1 bt343.2.1 bt343.2.2.1 bt343.2.2.2).bind fun t350 => (if (t349 != t350) = true then (laws_FnSpotSame.j0 k t349 true bt343.1 bt343.2.1 bt343.2.2.1 bt343.2.2.2) else ((impl_SpotSame.f bt343.2.2.1 bt343.2.2.2 bt343.1 bt343.2.1).bind fun t351 => (laws_FnSpotSame.j0 k t349 (t351 != t349) bt343.1 bt343.2.1 bt343.2.2.1 bt343.2.2.2))))))) = some r := h
 clear h
 by_cases c2 : (l0.length : Int) > 1048576
 ·rw [if_pos c2] at H
  have c2b0 : decide (1048576 < (l0.length : Int)) = true := decide_eq_true c2
  have c2b1 : decide (1048576 < l0.length) = true := decide_eq_true (by omega)
  clear c2
  obtain rfl := Option.some.inj H
  go_enter Try.func4, Try.ntmps4
  go_wp2
  go_ret
  exact ⟨by first | rfl | (simp [errW_none, errW_some] <;> rfl) | (simp [*, errW_none, errW_some] <;> rfl), h0_ HB⟩
 ·rw [if_neg c2] at H
  have c2b0 : decide (1048576 < (l0.length : Int)) = false := decide_eq_false c2
  have c2b1 : decide (1048576 < l0.length) = false := decide_eq_false (by omega)
  clear c2
  replace H := Option.bind_eq_some_iff.mp H
  obtain ⟨⟨t343, t344, t345, t346⟩, A30, H⟩ := H
  replace H : ((impl_SpotSame.f t343 t344 t345 t346).bind fun t349 => ((spec_SpotSame.f t343 t344 t345 t346).bind fun t350 => (if (t349 != t350) = true then (laws_FnSpotSame.j0 k t349 true t343 t344 t345 t346) else ((impl_SpotSame.f t345 t346 t343 t344).bind fun t351 => (laws_FnSpotSame.j0 k t349 (t351 != t349) t343 t344 t345 t346))))) = some r := H
  have A3 := Aside0.mk A30
  clear A30
  replace H := Option.bind_eq_some_iff.mp H
  obtain ⟨t349, A40, H⟩ := H
  replace H : ((spec_SpotSame.f t343 t344 t345 t346).bind fun t350 => (if (t349 != t350) = true then (laws_FnSpotSame.j0 k t349 true t343 t344 t345 t346) else ((impl_SpotSame.f t345 t346 t343 t344).bind fun t351 => (laws_FnSpotSame.j0 k t349 (t351 != t349) t343 t344 t345 t346)))) = some r := H
  have A4 := Aside0.mk A40
  clear A40
  have HC5 := Aside0.mk H
  clear H
  go_enter Try.func4, Try.ntmps4
  go_upto_region 5 with (first | ((with_reducible refine gate_callee (f := 23) rfl ?_); refine gL 13 Try.func23 #[.slice A0 l0.length c0] ?_; (with_reducible refine (spec_DrawSpotSame.calls k _ _ l0 t343 t344 t345 t346 _ ?side1 ?side2 A3.out).mono ?_); (case side1 => repeat (first | exact HR0.out | (with_reducible refine Kd.C_alloc ?_ _) | (with_reducible refine Kd.C_drewN ?_ _) | (with_reducible refine Kd.C_drew ?_))); (case side2 => exact HC0.out); rintro e w6 ⟨rfl, hb⟩; refine ⟨_, rfl, ?_⟩; replace HB := hbb (h0_ HB) hb; clear hb) | ((with_reducible refine gate_dst (N := 3) rfl ?_); refine bE 3 #[.int .i64 0, .int .i64 0] 24 ?_; intro gb347 hg w7 hbox hb; have BK347 := Aside0.mk (hbox); have GE347 := gw hg (h0_ HB); have GW347 := GE347; replace HB := hbb (h0_ HB) hb; clear hb hbox hg) | ((with_reducible refine gate_dst (N := 4) rfl ?_); refine bE 4 #[.int .i64 0, .int .i64 0] 24 ?_; intro gb348 hg w8 hbox hb; have BK348 := Aside0.mk (hbox); have GE348 := gw hg (hs_ HB); have GW348 := GE348; have NB347_348 := nl hg (bk BK347); have NB348_347 := ng hg (bk BK347); replace BK347 := bb (bk BK347) hb; replace HB := hbb (hs_ HB) hb; clear hb hbox hg; have hnb9 := NB347_348.out; have hnc9 := NB348_347.out; obtain ⟨hcz10_0, hcz10_1, hfz10_0, hfz10_1⟩ := cz2 BK347; obtain ⟨hcz11_0, hcz11_1, hfz11_0, hfz11_1⟩ := cz2 BK348) | ((with_reducible refine gate_callee (f := 24) rfl ?_); refine gL 18 Try.func24 #[.agg #[.int .i64 t343, .int .i64 t344], .agg #[.int .i64 t345, .int .i64 t346]] ?_; (with_reducible refine (impl_SpotSame.calls t343 t344 t345 t346 t349 _ A4.out).mono ?_); rintro e w12 ⟨rfl, hb⟩; refine ⟨_, rfl, ?_⟩; replace BK347 := bb (o := .cells #[.int .i64 t343, .int .i64 t344] 24 (0, 0)) (bkp BK347) hb; replace BK348 := bb (o := .cells #[.int .i64 t345, .int .i64 t346] 24 (0, 0)) (bkp BK348) hb; replace HB := hbb (hs_ HB) hb; clear hb))
  (try simp only [Act.put, List.setIfInBounds_toArray, List.set_cons_zero, List.set_cons_succ])
  go_cut [30] (fun v30 wc => ∃ (kq : Nat) (x30_4 : Bool), v30 = .bool x30_4 ∧ Aside0 (laws_FnSpotSame.j0 kq t349 x30_4 t343 t344 t345 t346 = some r) ∧ Aside0 (kq ≤ k) ∧ Aside0 (wc.heap[gb347]? = some (.cells #[.int .i64 t343, .int .i64 t344] 24 (0, 0))) ∧ Aside0 (wc.heap[gb348]? = some (.cells #[.int .i64 t345, .int .i64 t346] 24 (0, 0))) ∧ Aside0 (Below w.heap.size w wc))
  case first =>
   have H := HC5.out
   clear HC5
   replace H := Option.bind_eq_some_iff.mp H
   obtain ⟨t350, A130, H⟩ := H
   replace H : (if (t349 != t350) = true then (laws_FnSpotSame.j0 k t349 true t343 t344 t345 t346) else ((impl_SpotSame.f t345 t346 t343 t344).bind fun t351 => (laws_FnSpotSame.j0 k t349 (t351 != t349) t343 t344 t345 t346))) = some r := H
   have A13 := Aside0.mk A130
   clear A130
   by_cases c14 : (t349 != t350) = true
   ·rw [if_pos c14] at H
    have c14b0 : (t349 != t350) = true := c14
    (try (have c14b1 : decide (t349 = t350) = false := by simpa using c14))
    (try (have c14b2 : (t349 == t350) = false := by simpa using c14))
    (try (have c14b3 : ¬ (t349 = t350) := by simpa using c14))
    clear c14
    (first | rw [c14b0] | (simp only [i64_w, i32_w]; rw [c14b0]) | skip)
    have H' := Aside0.mk H
    clear H
    have hnb15 := NB347_348.out
    have hnc15 := NB348_347.out
    obtain ⟨hcz16_0, hcz16_1, hfz16_0, hfz16_1⟩ := cz2 BK347
    obtain ⟨hcz17_0, hcz17_1, hfz17_0, hfz17_1⟩ := cz2 BK348
    go_wp2_with (first | ((with_reducible refine gate_callee (f := 25) rfl ?_); refine gL 22 Try.func25 #[.agg #[.int .i64 t343, .int .i64 t344], .agg #[.int .i64 t345, .int .i64 t346]] ?_; (with_reducible refine (spec_SpotSame.calls t343 t344 t345 t346 t350 _ A13.out).mono ?_); rintro e w18 ⟨rfl, hb⟩; refine ⟨_, rfl, ?_⟩; replace BK347 := bb (bk BK347) hb; replace BK348 := bb (bk BK348) hb; replace HB := hbb (hs_ HB) hb; clear hb))
    go_meet
    case rel => exact ⟨_, (true), (by first | rfl | (simp; done) | (simp [*]; done)), H', ⟨by first | omega | exact Nat.le_refl _⟩, ⟨bk BK347⟩, ⟨bk BK348⟩, ⟨hs_ HB⟩⟩
   ·rw [if_neg c14] at H
    have c14b0 : (t349 != t350) = false := by simpa using c14
    (try (have c14b1 : decide (t349 = t350) = true := by simpa using c14))
    (try (have c14b2 : (t349 == t350) = true := by simpa using c14))
    clear c14
    (first | rw [c14b0] | (simp only [i64_w, i32_w]; rw [c14b0]) | skip)
    replace H := Option.bind_eq_some_iff.mp H
    obtain ⟨t351, A190, H⟩ := H
    replace H : (laws_FnSpotSame.j0 k t349 (t351 != t349) t343 t344 t345 t346) = some r := H
    have A19 := Aside0.mk A190
    clear A190
    have H' := Aside0.mk H
    clear H
    have hnb20 := NB347_348.out
    have hnc20 := NB348_347.out
    obtain ⟨hcz21_0, hcz21_1, hfz21_0, hfz21_1⟩ := cz2 BK347
    obtain ⟨hcz22_0, hcz22_1, hfz22_0, hfz22_1⟩ := cz2 BK348
    go_wp2_with (first | ((with_reducible refine gate_callee (f := 25) rfl ?_); refine gL 22 Try.func25 #[.agg #[.int .i64 t343, .int .i64 t344], .agg #[.int .i64 t345, .int .i64 t346]] ?_; (with_reducible refine (spec_SpotSame.calls t343 t344 t345 t346 t350 _ A13.out).mono ?_); rintro e w23 ⟨rfl, hb⟩; refine ⟨_, rfl, ?_⟩; replace BK347 := bb (bk BK347) hb; replace BK348 := bb (bk BK348) hb; replace HB := hbb (hs_ HB) hb; clear hb; obtain ⟨hcz24_0, hcz24_1, hfz24_0, hfz24_1⟩ := cz2 BK348; obtain ⟨hcz25_0, hcz25_1, hfz25_0, hfz25_1⟩ := cz2 BK347) | (go_at_call 24; (with_reducible refine (impl_SpotSame.calls t345 t346 t343 t344 t351 _ A19.out).mono ?_); rintro e w26 ⟨rfl, hb⟩; replace BK347 := bb (bk BK347) hb; replace BK348 := bb (bk BK348) hb; replace HB := hbb (hs_ HB) hb; clear hb))
    go_meet
    case rel => exact ⟨_, ((t351 != t349)), (by first | rfl | (simp; done) | (simp [*]; done)), H', ⟨by first | omega | exact Nat.le_refl _⟩, ⟨bk BK347⟩, ⟨bk BK348⟩, ⟨hs_ HB⟩⟩
  case rest =>
   clear HC5
   try clear c1
   try clear c2
   try clear c2b0
   try clear c2b1
   try clear p2
   try clear c4
   try clear c9
   try clear c14
   try clear c14b0
   try clear c14b1
   try clear c14b2
   try clear c15
   try clear c20
   try clear c23
   try clear c24
   try clear c25
   try clear hcz10_0
   try clear hcz10_1
   try clear hcz11_0
   try clear hcz11_1
   try clear hcz16_0
   try clear hcz16_1
   try clear hcz17_0
   try clear hcz17_1
   try clear hcz21_0
   try clear hcz21_1
   try clear hcz22_0
   try clear hcz22_1
   try clear hcz24_0
   try clear hcz24_1
   try clear hcz25_0
   try clear hcz25_1
   try clear hfz10_0
   try clear hfz10_1
   try clear hfz11_0
   try clear hfz11_1
   try clear hfz16_0
   try clear hfz16_1
   try clear hfz17_0
   try clear hfz17_1
   try clear hfz21_0
   try clear hfz21_1
   try clear hfz22_0
   try clear hfz22_1
   try clear hfz24_0
   try clear hfz24_1
   try clear hfz25_0
   try clear hfz25_1
   obtain ⟨kq, x30_4, rfl, HA, HJ4, BK347, BK348, HB⟩ := hcut
   cases kq with
   | zero => exact absurd HA.out (by simp [laws_FnSpotSame.j0])
   | succ kj4 =>
    have H := HA.out
    clear HA
    simp only [laws_FnSpotSame.j0] at H
    by_cases c27 : x30_4 = true
    ·subst c27
     have H1 : (some false) = some r := by rw [if_pos rfl] at H; exact H
     clear H
     have H := H1
     clear H1
     obtain rfl := Option.some.inj H
     go_wp2
     go_ret
     exact ⟨by first | rfl | (simp [errW_none, errW_some] <;> rfl) | (simp [*, errW_none, errW_some] <;> rfl), hs_ HB⟩
    ·replace c27 := Bool.eq_false_iff.mpr c27
     subst c27
     have H1 : ((impl_SpotDist.f kj4 t343 t344 t345 t346).bind fun bt352 => ((impl_SpotSame.f t343 t344 t343 t344).bind fun t356 => ((spec_SpotOk.f t343 t344).bind fun t357 => (if (t356 == t357) = true then (if t349 = true then (if bt352.2.2 = true then (if bt352.1 = 0 then (some (t343 == t345)) else (some false)) else (some false)) else (some true)) else (some false))))) = some r := by rw [if_neg (show ¬ (false = true) by decide)] at H; exact H
     clear H
     have H := H1
     clear H1
     replace H := Option.bind_eq_some_iff.mp H
     obtain ⟨⟨t352, t353, t354⟩, A280, H⟩ := H
     replace H : ((impl_SpotSame.f t343 t344 t343 t344).bind fun t356 => ((spec_SpotOk.f t343 t344).bind fun t357 => (if (t356 == t357) = true then (if t349 = true then (if t354 = true then (if t352 = 0 then (some (t343 == t345)) else (some false)) else (some false)) else (some true)) else (some false)))) = some r := H
     have A28 := Aside0.mk A280
     clear A280
     replace H := Option.bind_eq_some_iff.mp H
     obtain ⟨t356, A290, H⟩ := H
     replace H : ((spec_SpotOk.f t343 t344).bind fun t357 => (if (t356 == t357) = true then (if t349 = true then (if t354 = true then (if t352 = 0 then (some (t343 == t345)) else (some false)) else (some false)) else (some true)) else (some false))) = some r := H
     have A29 := Aside0.mk A290
     clear A290
     replace H := Option.bind_eq_some_iff.mp H
     obtain ⟨t357, A300, H⟩ := H
     replace H : (if (t356 == t357) = true then (if t349 = true then (if t354 = true then (if t352 = 0 then (some (t343 == t345)) else (some false)) else (some false)) else (some true)) else (some false)) = some r := H
     have A30 := Aside0.mk A300
     clear A300
     by_cases c31 : (t356 == t357) = true
     ·rw [if_pos c31] at H
      have c31b0 : (t356 == t357) = true := c31
      (try (have c31b1 : decide (t356 = t357) = true := by simpa using c31))
      (try (have c31b2 : (t356 == t357) = true := by simpa using c31))
      clear c31
      by_cases c32 : t349 = true
      ·subst c32
       have H1 : (if t354 = true then (if t352 = 0 then (some (t343 == t345)) else (some false)) else (some false)) = some r := by rw [if_pos rfl] at H; exact H
       clear H
       have H := H1
       clear H1
       by_cases c33 : t354 = true
       ·subst c33
        have H1 : (if t352 = 0 then (some (t343 == t345)) else (some false)) = some r := by rw [if_pos rfl] at H; exact H
        clear H
        have H := H1
        clear H1
        by_cases c34 : t352 = 0
        ·rw [if_pos c34] at H
         have c34b0 : (t352 == 0) = true := beq_iff_eq.mpr c34
         have c34b1 : (t352 != 0) = false := bne_eq_false_iff_eq.mpr c34
         clear c34
         obtain rfl := Option.some.inj H
         have hnb35 := NB347_348.out
         have hnc35 := NB348_347.out
         obtain ⟨hcz36_0, hcz36_1, hfz36_0, hfz36_1⟩ := cz2 BK347
         obtain ⟨hcz37_0, hcz37_1, hfz37_0, hfz37_1⟩ := cz2 BK348
         try go_wp2_with (first | ((with_reducible refine gate_callee (f := 20) rfl ?_); refine gL 34 Try.func20 #[.agg #[.int .i64 t343, .int .i64 t344], .agg #[.int .i64 t345, .int .i64 t346]] ?_; (with_reducible refine (impl_SpotDist.calls kj4 t343 t344 t345 t346 t352 t353 true _ A28.out).mono ?_); rintro e w38 ⟨rfl, hb⟩; refine ⟨_, rfl, ?_⟩; replace BK347 := bb (bk BK347) hb; replace BK348 := bb (bk BK348) hb; replace HB := hbb (hs_ HB) hb; clear hb) | ((with_reducible refine gate_dst (N := 6) rfl ?_); refine bE 6 #[.int .i64 0, .int .i64 0] 29 ?_; intro gb355 hg w39 hbox hb; have BK355 := Aside0.mk (hbox); have GE355 := gw hg (hs_ HB); have GW355 := GE355; have NB347_355 := nl hg (bk BK347); have NB355_347 := ng hg (bk BK347); have NB348_355 := nl hg (bk BK348); have NB355_348 := ng hg (bk BK348); replace BK347 := bb (bk BK347) hb; replace BK348 := bb (bk BK348) hb; replace HB := hbb (hs_ HB) hb; clear hb hbox hg; have hnb40 := NB355_347.out; have hnc40 := NB347_355.out; have hnb41 := NB355_348.out; have hnc41 := NB348_355.out; obtain ⟨hcz42_0, hcz42_1, hfz42_0, hfz42_1⟩ := cz2 BK355))
         have n0_ : Aside0 (((w39.setCell ⟨gb355, 0, none⟩ (.int .i64 t352)).setCell ⟨gb355, 1, none⟩ (.int .i64 t353)).heap[gb347]? = some (.cells #[.int .i64 t343, .int .i64 t344] 24 (0, 0))) := ⟨bk1 BK347 NB347_355⟩
         have n1_ : Aside0 (((w39.setCell ⟨gb355, 0, none⟩ (.int .i64 t352)).setCell ⟨gb355, 1, none⟩ (.int .i64 t353)).heap[gb348]? = some (.cells #[.int .i64 t345, .int .i64 t346] 24 (0, 0))) := ⟨bk1 BK348 NB348_355⟩
         have n2_ : Aside0 (((w39.setCell ⟨gb355, 0, none⟩ (.int .i64 t352)).setCell ⟨gb355, 1, none⟩ (.int .i64 t353)).heap[gb355]? = some (.cells #[.int .i64 t352, .int .i64 t353] 29 (0, 0))) := ⟨bkp BK355⟩
         have n3_ : Aside0 (Below w.heap.size w ((w39.setCell ⟨gb355, 0, none⟩ (.int .i64 t352)).setCell ⟨gb355, 1, none⟩ (.int .i64 t353))) := ⟨hs_ HB⟩
         (try clear BK347)
         (try clear BK348)
         (try clear BK355)
         (try clear HB)
         generalize ((w39.setCell ⟨gb355, 0, none⟩ (.int .i64 t352)).setCell ⟨gb355, 1, none⟩ (.int .i64 t353)) = w43 at n0_ n1_ n2_ n3_ ⊢
         have BK347 := n0_
         have BK348 := n1_
         have BK355 := n2_
         have HB := n3_
         clear n0_ n1_ n2_ n3_
         replace BK347 := Aside0.mk (blk_drew BK347.out)
         replace BK348 := Aside0.mk (blk_drew BK348.out)
         replace BK355 := Aside0.mk (blk_drew BK355.out)
         replace HB := Aside0.mk (below_drew1 HB.out)
         refine start_ (n := 26) (S := fun w' => w'.cell? ⟨gb347, 0, none⟩ = some (.int .i64 t343) ∧ w'.cell? ⟨gb347, 1, none⟩ = some (.int .i64 t344) ∧ w'.cell? ⟨gb355, 0, none⟩ = some (.int .i64 t352) ∧ w'.cell? ⟨gb355, 1, none⟩ = some (.int .i64 t353) ∧ w'.cell? ⟨gb348, 0, none⟩ = some (.int .i64 t345) ∧ w'.cell? ⟨gb348, 1, none⟩ = some (.int .i64 t346)) (ds := []) #[false, false, false, false, false, false, false, false, false, false, false, false, false, false, false, false, false, false, false, false, false, false, false, false, false, false] (by kernel_rfl) rfl rfl ⟨cw0 BK347, cw1 BK347, cw0 BK355, cw1 BK355, cw0 BK348, cw1 BK348⟩ (fun hHeld => ?_); refine with_tabW laws_FnSpotSame.tab8 laws_FnSpotSame.bits8 (fun HT_ HW_ => ?_)
         generalize w43.drew = w44 at BK347 BK348 BK355 HB hHeld ⊢
         refine take_ (i := 0) (N := some 37) (v := ?_) (a' := ?_) #[true, false, false, false, false, false, false, false, false, false, false, false, false, false, false, false, false, false, false, false, false, false, false, false, false, false] rfl rfl (take_ofW HT_.out HW_.out (by kernel_rfl)) (fun _ _ _ h => h) (Or.inl ⟨by rfl, ?_⟩) hHeld ?_ ?_
         rotate_left
         ·rintro w' ⟨s0, s1, s2, s3, s4, s5⟩
          go_simp
          with_reducible rfl
         rotate_left
         ·simp only [Act.put, List.setIfInBounds_toArray, List.set_cons_zero, List.set_cons_succ, i64_w, i32_w]
          rfl
         refine take_ (i := 1) (N := some 38) (v := ?_) (a' := ?_) #[true, true, false, false, false, false, false, false, false, false, false, false, false, false, false, false, false, false, false, false, false, false, false, false, false, false] rfl rfl (take_ofW HT_.out HW_.out (by kernel_rfl)) (fun _ _ _ h => h) (Or.inl ⟨by rfl, ?_⟩) hHeld ?_ ?_
         rotate_left
         ·rintro w' ⟨s0, s1, s2, s3, s4, s5⟩
          go_simp
          with_reducible rfl
         rotate_left
         ·simp only [Act.put, List.setIfInBounds_toArray, List.set_cons_zero, List.set_cons_succ, i64_w, i32_w]
          rfl
         refine take_ (i := 3) (N := some 40) (v := ?_) (a' := ?_) #[true, true, false, true, false, false, false, false, false, false, false, false, false, false, false, false, false, false, false, false, false, false, false, false, false, false] rfl rfl (take_ofW HT_.out HW_.out (by kernel_rfl)) (fun _ _ _ h => h) (Or.inl ⟨by rfl, ?_⟩) hHeld ?_ ?_
         rotate_left
         ·rintro w' ⟨s0, s1, s2, s3, s4, s5⟩
          go_simp
          with_reducible rfl
         rotate_left
         ·simp only [Act.put, List.setIfInBounds_toArray, List.set_cons_zero, List.set_cons_succ, i64_w, i32_w]
          rfl
         refine oN 2 39 #[true, true, true, true, false, false, false, false, false, false, false, false, false, false, false, false, false, false, false, false, false, false, false, false, false, false] HT_ (fun K hK => ?_)
         refine gS Try.func24 #[.agg #[.int .i64 t343, .int .i64 t344], .agg #[.int .i64 t343, .int .i64 t344]] ?_
         with_reducible refine (impl_SpotSame.calls t343 t344 t343 t344 t356 _ A29.out).mono ?_
         rintro e w45 ⟨rfl, hb⟩
         refine ⟨_, rfl, ?_⟩
         replace BK347 := bb (bk BK347) hb
         replace BK348 := bb (bk BK348) hb
         replace BK355 := bb (bk BK355) hb
         replace HB := hbb (hs_ HB) hb
         clear hb
         refine hK.out _ _ ⟨cw0 BK347, cw1 BK347, cw0 BK355, cw1 BK355, cw0 BK348, cw1 BK348⟩ (fun hHeld => ?_)
         clear hK K
         refine nP ?_
         refine oN 4 41 #[true, true, true, true, true, false, false, false, false, false, false, false, false, false, false, false, false, false, false, false, false, false, false, false, false, false] HT_ (fun K hK => ?_)
         refine gS Try.func26 #[.agg #[.int .i64 t343, .int .i64 t344]] ?_
         with_reducible refine (spec_SpotOk.calls t343 t344 t357 _ A30.out).mono ?_
         rintro e w46 ⟨rfl, hb⟩
         refine ⟨_, rfl, ?_⟩
         replace BK347 := bb (bk BK347) hb
         replace BK348 := bb (bk BK348) hb
         replace BK355 := bb (bk BK355) hb
         replace HB := hbb (hs_ HB) hb
         clear hb
         refine hK.out _ _ ⟨cw0 BK347, cw1 BK347, cw0 BK355, cw1 BK355, cw0 BK348, cw1 BK348⟩ (fun hHeld => ?_)
         clear hK K
         refine nP ?_
         refine pU 5 42 #[true, true, true, true, true, true, false, false, false, false, false, false, false, false, false, false, false, false, false, false, false, false, false, false, false, false] HT_ ?_
         refine pU 6 43 #[true, true, true, true, true, true, true, false, false, false, false, false, false, false, false, false, false, false, false, false, false, false, false, false, false, false] HT_ ?_
         refine pU 7 44 #[true, true, true, true, true, true, true, true, false, false, false, false, false, false, false, false, false, false, false, false, false, false, false, false, false, false] HT_ ?_
         refine pU 8 45 #[true, true, true, true, true, true, true, true, true, false, false, false, false, false, false, false, false, false, false, false, false, false, false, false, false, false] HT_ ?_
         refine pU 9 46 #[true, true, true, true, true, true, true, true, true, true, false, false, false, false, false, false, false, false, false, false, false, false, false, false, false, false] HT_ ?_
         refine pU 10 47 #[true, true, true, true, true, true, true, true, true, true, true, false, false, false, false, false, false, false, false, false, false, false, false, false, false, false] HT_ ?_
         refine pU 11 48 #[true, true, true, true, true, true, true, true, true, true, true, true, false, false, false, false, false, false, false, false, false, false, false, false, false, false] HT_ ?_
         refine pU 12 49 #[true, true, true, true, true, true, true, true, true, true, true, true, true, false, false, false, false, false, false, false, false, false, false, false, false, false] HT_ ?_
         refine take_ (i := 13) (N := some 50) (v := ?_) (a' := ?_) #[true, true, true, true, true, true, true, true, true, true, true, true, true, true, false, false, false, false, false, false, false, false, false, false, false, false] rfl rfl (take_ofW HT_.out HW_.out (by kernel_rfl)) (fun _ _ _ h => h) (Or.inl ⟨by rfl, ?_⟩) hHeld ?_ ?_
         rotate_left
         ·rintro w' ⟨s0, s1, s2, s3, s4, s5⟩
          go_simp
          with_reducible rfl
         rotate_left
         ·simp only [Act.put, List.setIfInBounds_toArray, List.set_cons_zero, List.set_cons_succ, i64_w, i32_w]
          rfl
         refine pU 14 51 #[true, true, true, true, true, true, true, true, true, true, true, true, true, true, true, false, false, false, false, false, false, false, false, false, false, false] HT_ ?_
         refine pU 15 52 #[true, true, true, true, true, true, true, true, true, true, true, true, true, true, true, true, false, false, false, false, false, false, false, false, false, false] HT_ ?_
         refine pU 16 53 #[true, true, true, true, true, true, true, true, true, true, true, true, true, true, true, true, true, false, false, false, false, false, false, false, false, false] HT_ ?_
         refine pU 17 54 #[true, true, true, true, true, true, true, true, true, true, true, true, true, true, true, true, true, true, false, false, false, false, false, false, false, false] HT_ ?_
         refine pU 19 56 #[true, true, true, true, true, true, true, true, true, true, true, true, true, true, true, true, true, true, false, true, false, false, false, false, false, false] HT_ ?_
         refine take_ (i := 18) (N := some 55) (v := ?_) (a' := ?_) #[true, true, true, true, true, true, true, true, true, true, true, true, true, true, true, true, true, true, true, true, false, false, false, false, false, false] rfl rfl (take_ofW HT_.out HW_.out (by kernel_rfl)) (fun _ _ _ h => h) (Or.inl ⟨by rfl, ?_⟩) hHeld ?_ ?_
         rotate_left
         ·rintro w' ⟨s0, s1, s2, s3, s4, s5⟩
          go_simp
          with_reducible rfl
         rotate_left
         ·simp only [Act.put, List.setIfInBounds_toArray, List.set_cons_zero, List.set_cons_succ, i64_w, i32_w]
          rfl
         refine take_ (i := 20) (N := some 57) (v := ?_) (a' := ?_) #[true, true, true, true, true, true, true, true, true, true, true, true, true, true, true, true, true, true, true, true, true, false, false, false, false, false] rfl rfl (take_ofW HT_.out HW_.out (by kernel_rfl)) (fun _ _ _ h => h) (Or.inl ⟨by rfl, ?_⟩) hHeld ?_ ?_
         rotate_left
         ·rintro w' ⟨s0, s1, s2, s3, s4, s5⟩
          go_simp
          with_reducible rfl
         rotate_left
         ·simp only [Act.put, List.setIfInBounds_toArray, List.set_cons_zero, List.set_cons_succ, i64_w, i32_w]
          rfl
         refine pU 21 58 #[true, true, true, true, true, true, true, true, true, true, true, true, true, true, true, true, true, true, true, true, true, true, false, false, false, false] HT_ ?_
         refine pU 22 59 #[true, true, true, true, true, true, true, true, true, true, true, true, true, true, true, true, true, true, true, true, true, true, true, false, false, false] HT_ ?_
         refine pU 23 60 #[true, true, true, true, true, true, true, true, true, true, true, true, true, true, true, true, true, true, true, true, true, true, true, true, false, false] HT_ ?_
         refine pU 24 61 #[true, true, true, true, true, true, true, true, true, true, true, true, true, true, true, true, true, true, true, true, true, true, true, true, true, false] HT_ ?_
         refine pU 25 2 #[true, true, true, true, true, true, true, true, true, true, true, true, true, true, true, true, true, true, true, true, true, true, true, true, true, true] HT_ ?_
         refine done_ (done_of HT_.out (by kernel_rfl)) ?_
         try go_wp2
         go_ret
         exact ⟨by first | rfl | (simp [errW_none, errW_some] <;> rfl) | (simp [*, errW_none, errW_some] <;> rfl), hs_ HB⟩
        ·rw [if_neg c34] at H
         have c34b0 : (t352 == 0) = false := beq_eq_false_iff_ne.mpr c34
         have c34b1 : (t352 != 0) = true := bne_iff_ne.mpr c34
         obtain rfl := Option.some.inj H
         have hnb47 := NB347_348.out
         have hnc47 := NB348_347.out
         obtain ⟨hcz48_0, hcz48_1, hfz48_0, hfz48_1⟩ := cz2 BK347
         obtain ⟨hcz49_0, hcz49_1, hfz49_0, hfz49_1⟩ := cz2 BK348
         try go_wp2_with (first | ((with_reducible refine gate_callee (f := 20) rfl ?_); refine gL 34 Try.func20 #[.agg #[.int .i64 t343, .int .i64 t344], .agg #[.int .i64 t345, .int .i64 t346]] ?_; (with_reducible refine (impl_SpotDist.calls kj4 t343 t344 t345 t346 t352 t353 true _ A28.out).mono ?_); rintro e w50 ⟨rfl, hb⟩; refine ⟨_, rfl, ?_⟩; replace BK347 := bb (bk BK347) hb; replace BK348 := bb (bk BK348) hb; replace HB := hbb (hs_ HB) hb; clear hb) | ((with_reducible refine gate_dst (N := 6) rfl ?_); refine bE 6 #[.int .i64 0, .int .i64 0] 29 ?_; intro gb355 hg w51 hbox hb; have BK355 := Aside0.mk (hbox); have GE355 := gw hg (hs_ HB); have GW355 := GE355; have NB347_355 := nl hg (bk BK347); have NB355_347 := ng hg (bk BK347); have NB348_355 := nl hg (bk BK348); have NB355_348 := ng hg (bk BK348); replace BK347 := bb (bk BK347) hb; replace BK348 := bb (bk BK348) hb; replace HB := hbb (hs_ HB) hb; clear hb hbox hg; have hnb52 := NB355_347.out; have hnc52 := NB347_355.out; have hnb53 := NB355_348.out; have hnc53 := NB348_355.out; obtain ⟨hcz54_0, hcz54_1, hfz54_0, hfz54_1⟩ := cz2 BK355))
         have n0_ : Aside0 (((w51.setCell ⟨gb355, 0, none⟩ (.int .i64 t352)).setCell ⟨gb355, 1, none⟩ (.int .i64 t353)).heap[gb347]? = some (.cells #[.int .i64 t343, .int .i64 t344] 24 (0, 0))) := ⟨bk1 BK347 NB347_355⟩
         have n1_ : Aside0 (((w51.setCell ⟨gb355, 0, none⟩ (.int .i64 t352)).setCell ⟨gb355, 1, none⟩ (.int .i64 t353)).heap[gb348]? = some (.cells #[.int .i64 t345, .int .i64 t346] 24 (0, 0))) := ⟨bk1 BK348 NB348_355⟩
         have n2_ : Aside0 (((w51.setCell ⟨gb355, 0, none⟩ (.int .i64 t352)).setCell ⟨gb355, 1, none⟩ (.int .i64 t353)).heap[gb355]? = some (.cells #[.int .i64 t352, .int .i64 t353] 29 (0, 0))) := ⟨bkp BK355⟩
         have n3_ : Aside0 (Below w.heap.size w ((w51.setCell ⟨gb355, 0, none⟩ (.int .i64 t352)).setCell ⟨gb355, 1, none⟩ (.int .i64 t353))) := ⟨hs_ HB⟩
         (try clear BK347)
         (try clear BK348)
         (try clear BK355)
         (try clear HB)
         generalize ((w51.setCell ⟨gb355, 0, none⟩ (.int .i64 t352)).setCell ⟨gb355, 1, none⟩ (.int .i64 t353)) = w55 at n0_ n1_ n2_ n3_ ⊢
         have BK347 := n0_
         have BK348 := n1_
         have BK355 := n2_
         have HB := n3_
         clear n0_ n1_ n2_ n3_
         replace BK347 := Aside0.mk (blk_drew BK347.out)
         replace BK348 := Aside0.mk (blk_drew BK348.out)
         replace BK355 := Aside0.mk (blk_drew BK355.out)
         replace HB := Aside0.mk (below_drew1 HB.out)
         refine start_ (n := 26) (S := fun w' => w'.cell? ⟨gb347, 0, none⟩ = some (.int .i64 t343) ∧ w'.cell? ⟨gb347, 1, none⟩ = some (.int .i64 t344) ∧ w'.cell? ⟨gb355, 0, none⟩ = some (.int .i64 t352) ∧ w'.cell? ⟨gb355, 1, none⟩ = some (.int .i64 t353)) (ds := []) #[false, false, false, false, false, false, false, false, false, false, false, false, false, false, false, false, false, false, false, false, false, false, false, false, false, false] (by kernel_rfl) rfl rfl ⟨cw0 BK347, cw1 BK347, cw0 BK355, cw1 BK355⟩ (fun hHeld => ?_); refine with_tabW laws_FnSpotSame.tab8 laws_FnSpotSame.bits8 (fun HT_ HW_ => ?_)
         generalize w55.drew = w56 at BK347 BK348 BK355 HB hHeld ⊢
         refine take_ (i := 0) (N := some 37) (v := ?_) (a' := ?_) #[true, false, false, false, false, false, false, false, false, false, false, false, false, false, false, false, false, false, false, false, false, false, false, false, false, false] rfl rfl (take_ofW HT_.out HW_.out (by kernel_rfl)) (fun _ _ _ h => h) (Or.inl ⟨by rfl, ?_⟩) hHeld ?_ ?_
         rotate_left
         ·rintro w' ⟨s0, s1, s2, s3⟩
          go_simp
          with_reducible rfl
         rotate_left
         ·simp only [Act.put, List.setIfInBounds_toArray, List.set_cons_zero, List.set_cons_succ, i64_w, i32_w]
          rfl
         refine take_ (i := 1) (N := some 38) (v := ?_) (a' := ?_) #[true, true, false, false, false, false, false, false, false, false, false, false, false, false, false, false, false, false, false, false, false, false, false, false, false, false] rfl rfl (take_ofW HT_.out HW_.out (by kernel_rfl)) (fun _ _ _ h => h) (Or.inl ⟨by rfl, ?_⟩) hHeld ?_ ?_
         rotate_left
         ·rintro w' ⟨s0, s1, s2, s3⟩
          go_simp
          with_reducible rfl
         rotate_left
         ·simp only [Act.put, List.setIfInBounds_toArray, List.set_cons_zero, List.set_cons_succ, i64_w, i32_w]
          rfl
         refine take_ (i := 3) (N := some 40) (v := ?_) (a' := ?_) #[true, true, false, true, false, false, false, false, false, false, false, false, false, false, false, false, false, false, false, false, false, false, false, false, false, false] rfl rfl (take_ofW HT_.out HW_.out (by kernel_rfl)) (fun _ _ _ h => h) (Or.inl ⟨by rfl, ?_⟩) hHeld ?_ ?_
         rotate_left
         ·rintro w' ⟨s0, s1, s2, s3⟩
          go_simp
          with_reducible rfl
         rotate_left
         ·simp only [Act.put, List.setIfInBounds_toArray, List.set_cons_zero, List.set_cons_succ, i64_w, i32_w]
          rfl
         refine oN 2 39 #[true, true, true, true, false, false, false, false, false, false, false, false, false, false, false, false, false, false, false, false, false, false, false, false, false, false] HT_ (fun K hK => ?_)
         refine gS Try.func24 #[.agg #[.int .i64 t343, .int .i64 t344], .agg #[.int .i64 t343, .int .i64 t344]] ?_
         with_reducible refine (impl_SpotSame.calls t343 t344 t343 t344 t356 _ A29.out).mono ?_
         rintro e w57 ⟨rfl, hb⟩
         refine ⟨_, rfl, ?_⟩
         replace BK347 := bb (bk BK347) hb
         replace BK348 := bb (bk BK348) hb
         replace BK355 := bb (bk BK355) hb
         replace HB := hbb (hs_ HB) hb
         clear hb
         refine hK.out _ _ ⟨cw0 BK347, cw1 BK347, cw0 BK355, cw1 BK355⟩ (fun hHeld => ?_)
         clear hK K
         refine nP ?_
         refine oN 4 41 #[true, true, true, true, true, false, false, false, false, false, false, false, false, false, false, false, false, false, false, false, false, false, false, false, false, false] HT_ (fun K hK => ?_)
         refine gS Try.func26 #[.agg #[.int .i64 t343, .int .i64 t344]] ?_
         with_reducible refine (spec_SpotOk.calls t343 t344 t357 _ A30.out).mono ?_
         rintro e w58 ⟨rfl, hb⟩
         refine ⟨_, rfl, ?_⟩
         replace BK347 := bb (bk BK347) hb
         replace BK348 := bb (bk BK348) hb
         replace BK355 := bb (bk BK355) hb
         replace HB := hbb (hs_ HB) hb
         clear hb
         refine hK.out _ _ ⟨cw0 BK347, cw1 BK347, cw0 BK355, cw1 BK355⟩ (fun hHeld => ?_)
         clear hK K
         refine nP ?_
         refine pU 5 42 #[true, true, true, true, true, true, false, false, false, false, false, false, false, false, false, false, false, false, false, false, false, false, false, false, false, false] HT_ ?_
         refine pU 6 43 #[true, true, true, true, true, true, true, false, false, false, false, false, false, false, false, false, false, false, false, false, false, false, false, false, false, false] HT_ ?_
         refine pU 7 44 #[true, true, true, true, true, true, true, true, false, false, false, false, false, false, false, false, false, false, false, false, false, false, false, false, false, false] HT_ ?_
         refine pU 8 45 #[true, true, true, true, true, true, true, true, true, false, false, false, false, false, false, false, false, false, false, false, false, false, false, false, false, false] HT_ ?_
         refine pU 9 46 #[true, true, true, true, true, true, true, true, true, true, false, false, false, false, false, false, false, false, false, false, false, false, false, false, false, false] HT_ ?_
         refine pU 10 47 #[true, true, true, true, true, true, true, true, true, true, true, false, false, false, false, false, false, false, false, false, false, false, false, false, false, false] HT_ ?_
         refine pU 11 48 #[true, true, true, true, true, true, true, true, true, true, true, true, false, false, false, false, false, false, false, false, false, false, false, false, false, false] HT_ ?_
         refine pU 12 49 #[true, true, true, true, true, true, true, true, true, true, true, true, true, false, false, false, false, false, false, false, false, false, false, false, false, false] HT_ ?_
         refine take_ (i := 13) (N := some 50) (v := ?_) (a' := ?_) #[true, true, true, true, true, true, true, true, true, true, true, true, true, true, false, false, false, false, false, false, false, false, false, false, false, false] rfl rfl (take_ofW HT_.out HW_.out (by kernel_rfl)) (fun _ _ _ h => h) (Or.inl ⟨by rfl, ?_⟩) hHeld ?_ ?_
         rotate_left
         ·rintro w' ⟨s0, s1, s2, s3⟩
          go_simp
          with_reducible rfl
         rotate_left
         ·simp only [Act.put, List.setIfInBounds_toArray, List.set_cons_zero, List.set_cons_succ, i64_w, i32_w]
          rfl
         refine pU 14 51 #[true, true, true, true, true, true, true, true, true, true, true, true, true, true, true, false, false, false, false, false, false, false, false, false, false, false] HT_ ?_
         refine pU 15 52 #[true, true, true, true, true, true, true, true, true, true, true, true, true, true, true, true, false, false, false, false, false, false, false, false, false, false] HT_ ?_
         refine pU 16 53 #[true, true, true, true, true, true, true, true, true, true, true, true, true, true, true, true, true, false, false, false, false, false, false, false, false, false] HT_ ?_
         refine pure_ (i := 17) (N := some 54) (v := undef) (a' := ?_) #[true, true, true, true, true, true, true, true, true, true, true, true, true, true, true, true, true, true, false, false, false, false, false, false, false, false] rfl rfl (any_of HT_.out (by kernel_rfl)) (fun _ _ _ h => h) (Or.inr ⟨by rfl, rfl⟩) ?_ ?_
         rotate_left
         ·simp only [Act.put, List.setIfInBounds_toArray, List.set_cons_zero, List.set_cons_succ, i64_w, i32_w]
          rfl
         refine pure_ (i := 18) (N := some 55) (v := undef) (a' := ?_) #[true, true, true, true, true, true, true, true, true, true, true, true, true, true, true, true, true, true, true, false, false, false, false, false, false, false] rfl rfl (any_of HT_.out (by kernel_rfl)) (fun _ _ _ h => h) (Or.inr ⟨by rfl, rfl⟩) ?_ ?_
         rotate_left
         ·simp only [Act.put, List.setIfInBounds_toArray, List.set_cons_zero, List.set_cons_succ, i64_w, i32_w]
          rfl
         refine pure_ (i := 19) (N := some 56) (v := undef) (a' := ?_) #[true, true, true, true, true, true, true, true, true, true, true, true, true, true, true, true, true, true, true, true, false, false, false, false, false, false] rfl rfl (any_of HT_.out (by kernel_rfl)) (fun _ _ _ h => h) (Or.inr ⟨by rfl, rfl⟩) ?_ ?_
         rotate_left
         ·simp only [Act.put, List.setIfInBounds_toArray, List.set_cons_zero, List.set_cons_succ, i64_w, i32_w]
          rfl
         refine pure_ (i := 20) (N := some 57) (v := undef) (a' := ?_) #[true, true, true, true, true, true, true, true, true, true, true, true, true, true, true, true, true, true, true, true, true, false, false, false, false, false] rfl rfl (any_of HT_.out (by kernel_rfl)) (fun _ _ _ h => h) (Or.inr ⟨by rfl, rfl⟩) ?_ ?_
         rotate_left
         ·simp only [Act.put, List.setIfInBounds_toArray, List.set_cons_zero, List.set_cons_succ, i64_w, i32_w]
          rfl
         refine pure_ (i := 21) (N := some 58) (v := undef) (a' := ?_) #[true, true, true, true, true, true, true, true, true, true, true, true, true, true, true, true, true, true, true, true, true, true, false, false, false, false] rfl rfl (any_of HT_.out (by kernel_rfl)) (fun _ _ _ h => h) (Or.inr ⟨by rfl, rfl⟩) ?_ ?_
         rotate_left
         ·simp only [Act.put, List.setIfInBounds_toArray, List.set_cons_zero, List.set_cons_succ, i64_w, i32_w]
          rfl
         refine pU 22 59 #[true, true, true, true, true, true, true, true, true, true, true, true, true, true, true, true, true, true, true, true, true, true, true, false, false, false] HT_ ?_
         refine pU 23 60 #[true, true, true, true, true, true, true, true, true, true, true, true, true, true, true, true, true, true, true, true, true, true, true, true, false, false] HT_ ?_
         refine pU 24 61 #[true, true, true, true, true, true, true, true, true, true, true, true, true, true, true, true, true, true, true, true, true, true, true, true, true, false] HT_ ?_
         refine pU 25 2 #[true, true, true, true, true, true, true, true, true, true, true, true, true, true, true, true, true, true, true, true, true, true, true, true, true, true] HT_ ?_
         refine done_ (done_of HT_.out (by kernel_rfl)) ?_
         try go_wp2
         go_ret
         exact ⟨by first | rfl | (simp [errW_none, errW_some] <;> rfl) | (simp [*, errW_none, errW_some] <;> rfl), hs_ HB⟩
       ·replace c33 := Bool.eq_false_iff.mpr c33
        subst c33
        have H1 : (some false) = some r := by rw [if_neg (show ¬ (false = true) by decide)] at H; exact H
        clear H
        have H := H1
        clear H1
        obtain rfl := Option.some.inj H
        have hnb59 := NB347_348.out
        have hnc59 := NB348_347.out
        obtain ⟨hcz60_0, hcz60_1, hfz60_0, hfz60_1⟩ := cz2 BK347
        obtain ⟨hcz61_0, hcz61_1, hfz61_0, hfz61_1⟩ := cz2 BK348
        try go_wp2_with (first | ((with_reducible refine gate_callee (f := 20) rfl ?_); refine gL 34 Try.func20 #[.agg #[.int .i64 t343, .int .i64 t344], .agg #[.int .i64 t345, .int .i64 t346]] ?_; (with_reducible refine (impl_SpotDist.calls kj4 t343 t344 t345 t346 t352 t353 false _ A28.out).mono ?_); rintro e w62 ⟨rfl, hb⟩; refine ⟨_, rfl, ?_⟩; replace BK347 := bb (bk BK347) hb; replace BK348 := bb (bk BK348) hb; replace HB := hbb (hs_ HB) hb; clear hb) | ((with_reducible refine gate_dst (N := 6) rfl ?_); refine bE 6 #[.int .i64 0, .int .i64 0] 29 ?_; intro gb355 hg w63 hbox hb; have BK355 := Aside0.mk (hbox); have GE355 := gw hg (hs_ HB); have GW355 := GE355; have NB347_355 := nl hg (bk BK347); have NB355_347 := ng hg (bk BK347); have NB348_355 := nl hg (bk BK348); have NB355_348 := ng hg (bk BK348); replace BK347 := bb (bk BK347) hb; replace BK348 := bb (bk BK348) hb; replace HB := hbb (hs_ HB) hb; clear hb hbox hg; have hnb64 := NB355_347.out; have hnc64 := NB347_355.out; have hnb65 := NB355_348.out; have hnc65 := NB348_355.out; obtain ⟨hcz66_0, hcz66_1, hfz66_0, hfz66_1⟩ := cz2 BK355))
        have n0_ : Aside0 (((w63.setCell ⟨gb355, 0, none⟩ (.int .i64 t352)).setCell ⟨gb355, 1, none⟩ (.int .i64 t353)).heap[gb347]? = some (.cells #[.int .i64 t343, .int .i64 t344] 24 (0, 0))) := ⟨bk1 BK347 NB347_355⟩
        have n1_ : Aside0 (((w63.setCell ⟨gb355, 0, none⟩ (.int .i64 t352)).setCell ⟨gb355, 1, none⟩ (.int .i64 t353)).heap[gb348]? = some (.cells #[.int .i64 t345, .int .i64 t346] 24 (0, 0))) := ⟨bk1 BK348 NB348_355⟩
        have n2_ : Aside0 (((w63.setCell ⟨gb355, 0, none⟩ (.int .i64 t352)).setCell ⟨gb355, 1, none⟩ (.int .i64 t353)).heap[gb355]? = some (.cells #[.int .i64 t352, .int .i64 t353] 29 (0, 0))) := ⟨bkp BK355⟩
        have n3_ : Aside0 (Below w.heap.size w ((w63.setCell ⟨gb355, 0, none⟩ (.int .i64 t352)).setCell ⟨gb355, 1, none⟩ (.int .i64 t353))) := ⟨hs_ HB⟩
        (try clear BK347)
        (try clear BK348)
        (try clear BK355)
        (try clear HB)
        generalize ((w63.setCell ⟨gb355, 0, none⟩ (.int .i64 t352)).setCell ⟨gb355, 1, none⟩ (.int .i64 t353)) = w67 at n0_ n1_ n2_ n3_ ⊢
        have BK347 := n0_
        have BK348 := n1_
        have BK355 := n2_
        have HB := n3_
        clear n0_ n1_ n2_ n3_
        replace BK347 := Aside0.mk (blk_drew BK347.out)
        replace BK348 := Aside0.mk (blk_drew BK348.out)
        replace BK355 := Aside0.mk (blk_drew BK355.out)
        replace HB := Aside0.mk (below_drew1 HB.out)
        refine start_ (n := 26) (S := fun w' => w'.cell? ⟨gb347, 0, none⟩ = some (.int .i64 t343) ∧ w'.cell? ⟨gb347, 1, none⟩ = some (.int .i64 t344)) (ds := []) #[false, false, false, false, false, false, false, false, false, false, false, false, false, false, false, false, false, false, false, false, false, false, false, false, false, false] (by kernel_rfl) rfl rfl ⟨cw0 BK347, cw1 BK347⟩ (fun hHeld => ?_); refine with_tabW laws_FnSpotSame.tab8 laws_FnSpotSame.bits8 (fun HT_ HW_ => ?_)
        generalize w67.drew = w68 at BK347 BK348 BK355 HB hHeld ⊢
        refine take_ (i := 0) (N := some 37) (v := ?_) (a' := ?_) #[true, false, false, false, false, false, false, false, false, false, false, false, false, false, false, false, false, false, false, false, false, false, false, false, false, false] rfl rfl (take_ofW HT_.out HW_.out (by kernel_rfl)) (fun _ _ _ h => h) (Or.inl ⟨by rfl, ?_⟩) hHeld ?_ ?_
        rotate_left
        ·rintro w' ⟨s0, s1⟩
         go_simp
         with_reducible rfl
        rotate_left
        ·simp only [Act.put, List.setIfInBounds_toArray, List.set_cons_zero, List.set_cons_succ, i64_w, i32_w]
         rfl
        refine take_ (i := 1) (N := some 38) (v := ?_) (a' := ?_) #[true, true, false, false, false, false, false, false, false, false, false, false, false, false, false, false, false, false, false, false, false, false, false, false, false, false] rfl rfl (take_ofW HT_.out HW_.out (by kernel_rfl)) (fun _ _ _ h => h) (Or.inl ⟨by rfl, ?_⟩) hHeld ?_ ?_
        rotate_left
        ·rintro w' ⟨s0, s1⟩
         go_simp
         with_reducible rfl
        rotate_left
        ·simp only [Act.put, List.setIfInBounds_toArray, List.set_cons_zero, List.set_cons_succ, i64_w, i32_w]
         rfl
        refine take_ (i := 3) (N := some 40) (v := ?_) (a' := ?_) #[true, true, false, true, false, false, false, false, false, false, false, false, false, false, false, false, false, false, false, false, false, false, false, false, false, false] rfl rfl (take_ofW HT_.out HW_.out (by kernel_rfl)) (fun _ _ _ h => h) (Or.inl ⟨by rfl, ?_⟩) hHeld ?_ ?_
        rotate_left
        ·rintro w' ⟨s0, s1⟩
         go_simp
         with_reducible rfl
        rotate_left
        ·simp only [Act.put, List.setIfInBounds_toArray, List.set_cons_zero, List.set_cons_succ, i64_w, i32_w]
         rfl
        refine oN 2 39 #[true, true, true, true, false, false, false, false, false, false, false, false, false, false, false, false, false, false, false, false, false, false, false, false, false, false] HT_ (fun K hK => ?_)
        refine gS Try.func24 #[.agg #[.int .i64 t343, .int .i64 t344], .agg #[.int .i64 t343, .int .i64 t344]] ?_
        with_reducible refine (impl_SpotSame.calls t343 t344 t343 t344 t356 _ A29.out).mono ?_
        rintro e w69 ⟨rfl, hb⟩
        refine ⟨_, rfl, ?_⟩
        replace BK347 := bb (bk BK347) hb
        replace BK348 := bb (bk BK348) hb
        replace BK355 := bb (bk BK355) hb
        replace HB := hbb (hs_ HB) hb
        clear hb
        refine hK.out _ _ ⟨cw0 BK347, cw1 BK347⟩ (fun hHeld => ?_)
        clear hK K
        refine nP ?_
        refine oN 4 41 #[true, true, true, true, true, false, false, false, false, false, false, false, false, false, false, false, false, false, false, false, false, false, false, false, false, false] HT_ (fun K hK => ?_)
        refine gS Try.func26 #[.agg #[.int .i64 t343, .int .i64 t344]] ?_
        with_reducible refine (spec_SpotOk.calls t343 t344 t357 _ A30.out).mono ?_
        rintro e w70 ⟨rfl, hb⟩
        refine ⟨_, rfl, ?_⟩
        replace BK347 := bb (bk BK347) hb
        replace BK348 := bb (bk BK348) hb
        replace BK355 := bb (bk BK355) hb
        replace HB := hbb (hs_ HB) hb
        clear hb
        refine hK.out _ _ ⟨cw0 BK347, cw1 BK347⟩ (fun hHeld => ?_)
        clear hK K
        refine nP ?_
        refine pU 5 42 #[true, true, true, true, true, true, false, false, false, false, false, false, false, false, false, false, false, false, false, false, false, false, false, false, false, false] HT_ ?_
        refine pU 6 43 #[true, true, true, true, true, true, true, false, false, false, false, false, false, false, false, false, false, false, false, false, false, false, false, false, false, false] HT_ ?_
        refine pU 7 44 #[true, true, true, true, true, true, true, true, false, false, false, false, false, false, false, false, false, false, false, false, false, false, false, false, false, false] HT_ ?_
        refine pU 8 45 #[true, true, true, true, true, true, true, true, true, false, false, false, false, false, false, false, false, false, false, false, false, false, false, false, false, false] HT_ ?_
        refine pU 9 46 #[true, true, true, true, true, true, true, true, true, true, false, false, false, false, false, false, false, false, false, false, false, false, false, false, false, false] HT_ ?_
        refine pU 10 47 #[true, true, true, true, true, true, true, true, true, true, true, false, false, false, false, false, false, false, false, false, false, false, false, false, false, false] HT_ ?_
        refine pU 11 48 #[true, true, true, true, true, true, true, true, true, true, true, true, false, false, false, false, false, false, false, false, false, false, false, false, false, false] HT_ ?_
        refine pure_ (i := 12) (N := some 49) (v := undef) (a' := ?_) #[true, true, true, true, true, true, true, true, true, true, true, true, true, false, false, false, false, false, false, false, false, false, false, false, false, false] rfl rfl (any_of HT_.out (by kernel_rfl)) (fun _ _ _ h => h) (Or.inr ⟨by rfl, rfl⟩) ?_ ?_
        rotate_left
        ·simp only [Act.put, List.setIfInBounds_toArray, List.set_cons_zero, List.set_cons_succ, i64_w, i32_w]
         rfl
        refine pure_ (i := 13) (N := some 50) (v := undef) (a' := ?_) #[true, true, true, true, true, true, true, true, true, true, true, true, true, true, false, false, false, false, false, false, false, false, false, false, false, false] rfl rfl (any_of HT_.out (by kernel_rfl)) (fun _ _ _ h => h) (Or.inr ⟨by rfl, rfl⟩) ?_ ?_
        rotate_left
        ·simp only [Act.put, List.setIfInBounds_toArray, List.set_cons_zero, List.set_cons_succ, i64_w, i32_w]
         rfl
        refine pure_ (i := 14) (N := some 51) (v := undef) (a' := ?_) #[true, true, true, true, true, true, true, true, true, true, true, true, true, true, true, false, false, false, false, false, false, false, false, false, false, false] rfl rfl (any_of HT_.out (by kernel_rfl)) (fun _ _ _ h => h) (Or.inr ⟨by rfl, rfl⟩) ?_ ?_
        rotate_left
        ·simp only [Act.put, List.setIfInBounds_toArray, List.set_cons_zero, List.set_cons_succ, i64_w, i32_w]
         rfl
        refine pU 15 52 #[true, true, true, true, true, true, true, true, true, true, true, true, true, true, true, true, false, false, false, false, false, false, false, false, false, false] HT_ ?_
        refine pU 16 53 #[true, true, true, true, true, true, true, true, true, true, true, true, true, true, true, true, true, false, false, false, false, false, false, false, false, false] HT_ ?_
        refine pure_ (i := 17) (N := some 54) (v := undef) (a' := ?_) #[true, true, true, true, true, true, true, true, true, true, true, true, true, true, true, true, true, true, false, false, false, false, false, false, false, false] rfl rfl (any_of HT_.out (by kernel_rfl)) (fun _ _ _ h => h) (Or.inr ⟨by rfl, rfl⟩) ?_ ?_
        rotate_left
        ·simp only [Act.put, List.setIfInBounds_toArray, List.set_cons_zero, List.set_cons_succ, i64_w, i32_w]
         rfl
        refine pure_ (i := 18) (N := some 55) (v := undef) (a' := ?_) #[true, true, true, true, true, true, true, true, true, true, true, true, true, true, true, true, true, true, true, false, false, false, false, false, false, false] rfl rfl (any_of HT_.out (by kernel_rfl)) (fun _ _ _ h => h) (Or.inr ⟨by rfl, rfl⟩) ?_ ?_
        rotate_left
        ·simp only [Act.put, List.setIfInBounds_toArray, List.set_cons_zero, List.set_cons_succ, i64_w, i32_w]
         rfl
        refine pure_ (i := 19) (N := some 56) (v := undef) (a' := ?_) #[true, true, true, true, true, true, true, true, true, true, true, true, true, true, true, true, true, true, true, true, false, false, false, false, false, false] rfl rfl (any_of HT_.out (by kernel_rfl)) (fun _ _ _ h => h) (Or.inr ⟨by rfl, rfl⟩) ?_ ?_
        rotate_left
        ·simp only [Act.put, List.setIfInBounds_toArray, List.set_cons_zero, List.set_cons_succ, i64_w, i32_w]
         rfl
        refine pure_ (i := 20) (N := some 57) (v := undef) (a' := ?_) #[true, true, true, true, true, true, true, true, true, true, true, true, true, true, true, true, true, true, true, true, true, false, false, false, false, false] rfl rfl (any_of HT_.out (by kernel_rfl)) (fun _ _ _ h => h) (Or.inr ⟨by rfl, rfl⟩) ?_ ?_
        rotate_left
        ·simp only [Act.put, List.setIfInBounds_toArray, List.set_cons_zero, List.set_cons_succ, i64_w, i32_w]
         rfl
        refine pure_ (i := 21) (N := some 58) (v := undef) (a' := ?_) #[true, true, true, true, true, true, true, true, true, true, true, true, true, true, true, true, true, true, true, true, true, true, false, false, false, false] rfl rfl (any_of HT_.out (by kernel_rfl)) (fun _ _ _ h => h) (Or.inr ⟨by rfl, rfl⟩) ?_ ?_
        rotate_left
        ·simp only [Act.put, List.setIfInBounds_toArray, List.set_cons_zero, List.set_cons_succ, i64_w, i32_w]
         rfl
        refine pU 22 59 #[true, true, true, true, true, true, true, true, true, true, true, true, true, true, true, true, true, true, true, true, true, true, true, false, false, false] HT_ ?_
        refine pU 23 60 #[true, true, true, true, true, true, true, true, true, true, true, true, true, true, true, true, true, true, true, true, true, true, true, true, false, false] HT_ ?_
        refine pU 24 61 #[true, true, true, true, true, true, true, true, true, true, true, true, true, true, true, true, true, true, true, true, true, true, true, true, true, false] HT_ ?_
        refine pU 25 2 #[true, true, true, true, true, true, true, true, true, true, true, true, true, true, true, true, true, true, true, true, true, true, true, true, true, true] HT_ ?_
        refine done_ (done_of HT_.out (by kernel_rfl)) ?_
        try go_wp2
        go_ret
        exact ⟨by first | rfl | (simp [errW_none, errW_some] <;> rfl) | (simp [*, errW_none, errW_some] <;> rfl), hs_ HB⟩
      ·replace c32 := Bool.eq_false_iff.mpr c32
       subst c32
       have H1 : (some true) = some r := by rw [if_neg (show ¬ (false = true) by decide)] at H; exact H
       clear H
       have H := H1
       clear H1
       obtain rfl := Option.some.inj H
       have hnb71 := NB347_348.out
       have hnc71 := NB348_347.out
       obtain ⟨hcz72_0, hcz72_1, hfz72_0, hfz72_1⟩ := cz2 BK347
       obtain ⟨hcz73_0, hcz73_1, hfz73_0, hfz73_1⟩ := cz2 BK348
       try go_wp2_with (first | ((with_reducible refine gate_callee (f := 20) rfl ?_); refine gL 34 Try.func20 #[.agg #[.int .i64 t343, .int .i64 t344], .agg #[.int .i64 t345, .int .i64 t346]] ?_; (with_reducible refine (impl_SpotDist.calls kj4 t343 t344 t345 t346 t352 t353 t354 _ A28.out).mono ?_); rintro e w74 ⟨rfl, hb⟩; refine ⟨_, rfl, ?_⟩; replace BK347 := bb (bk BK347) hb; replace BK348 := bb (bk BK348) hb; replace HB := hbb (hs_ HB) hb; clear hb) | ((with_reducible refine gate_dst (N := 6) rfl ?_); refine bE 6 #[.int .i64 0, .int .i64 0] 29 ?_; intro gb355 hg w75 hbox hb; have BK355 := Aside0.mk (hbox); have GE355 := gw hg (hs_ HB); have GW355 := GE355; have NB347_355 := nl hg (bk BK347); have NB355_347 := ng hg (bk BK347); have NB348_355 := nl hg (bk BK348); have NB355_348 := ng hg (bk BK348); replace BK347 := bb (bk BK347) hb; replace BK348 := bb (bk BK348) hb; replace HB := hbb (hs_ HB) hb; clear hb hbox hg; have hnb76 := NB355_347.out; have hnc76 := NB347_355.out; have hnb77 := NB355_348.out; have hnc77 := NB348_355.out; obtain ⟨hcz78_0, hcz78_1, hfz78_0, hfz78_1⟩ := cz2 BK355))
       have n0_ : Aside0 (((w75.setCell ⟨gb355, 0, none⟩ (.int .i64 t352)).setCell ⟨gb355, 1, none⟩ (.int .i64 t353)).heap[gb347]? = some (.cells #[.int .i64 t343, .int .i64 t344] 24 (0, 0))) := ⟨bk1 BK347 NB347_355⟩
       have n1_ : Aside0 (((w75.setCell ⟨gb355, 0, none⟩ (.int .i64 t352)).setCell ⟨gb355, 1, none⟩ (.int .i64 t353)).heap[gb348]? = some (.cells #[.int .i64 t345, .int .i64 t346] 24 (0, 0))) := ⟨bk1 BK348 NB348_355⟩
       have n2_ : Aside0 (((w75.setCell ⟨gb355, 0, none⟩ (.int .i64 t352)).setCell ⟨gb355, 1, none⟩ (.int .i64 t353)).heap[gb355]? = some (.cells #[.int .i64 t352, .int .i64 t353] 29 (0, 0))) := ⟨bkp BK355⟩
       have n3_ : Aside0 (Below w.heap.size w ((w75.setCell ⟨gb355, 0, none⟩ (.int .i64 t352)).setCell ⟨gb355, 1, none⟩ (.int .i64 t353))) := ⟨hs_ HB⟩
       (try clear BK347)
       (try clear BK348)
       (try clear BK355)
       (try clear HB)
       generalize ((w75.setCell ⟨gb355, 0, none⟩ (.int .i64 t352)).setCell ⟨gb355, 1, none⟩ (.int .i64 t353)) = w79 at n0_ n1_ n2_ n3_ ⊢
       have BK347 := n0_
       have BK348 := n1_
       have BK355 := n2_
       have HB := n3_
       clear n0_ n1_ n2_ n3_
       replace BK347 := Aside0.mk (blk_drew BK347.out)
       replace BK348 := Aside0.mk (blk_drew BK348.out)
       replace BK355 := Aside0.mk (blk_drew BK355.out)
       replace HB := Aside0.mk (below_drew1 HB.out)
       refine start_ (n := 26) (S := fun w' => w'.cell? ⟨gb347, 0, none⟩ = some (.int .i64 t343) ∧ w'.cell? ⟨gb347, 1, none⟩ = some (.int .i64 t344)) (ds := []) #[false, false, false, false, false, false, false, false, false, false, false, false, false, false, false, false, false, false, false, false, false, false, false, false, false, false] (by kernel_rfl) rfl rfl ⟨cw0 BK347, cw1 BK347⟩ (fun hHeld => ?_); refine with_tabW laws_FnSpotSame.tab8 laws_FnSpotSame.bits8 (fun HT_ HW_ => ?_)
       generalize w79.drew = w80 at BK347 BK348 BK355 HB hHeld ⊢
       refine take_ (i := 0) (N := some 37) (v := ?_) (a' := ?_) #[true, false, false, false, false, false, false, false, false, false, false, false, false, false, false, false, false, false, false, false, false, false, false, false, false, false] rfl rfl (take_ofW HT_.out HW_.out (by kernel_rfl)) (fun _ _ _ h => h) (Or.inl ⟨by rfl, ?_⟩) hHeld ?_ ?_
       rotate_left
       ·rintro w' ⟨s0, s1⟩
        go_simp
        with_reducible rfl
       rotate_left
       ·simp only [Act.put, List.setIfInBounds_toArray, List.set_cons_zero, List.set_cons_succ, i64_w, i32_w]
        rfl
       refine take_ (i := 1) (N := some 38) (v := ?_) (a' := ?_) #[true, true, false, false, false, false, false, false, false, false, false, false, false, false, false, false, false, false, false, false, false, false, false, false, false, false] rfl rfl (take_ofW HT_.out HW_.out (by kernel_rfl)) (fun _ _ _ h => h) (Or.inl ⟨by rfl, ?_⟩) hHeld ?_ ?_
       rotate_left
       ·rintro w' ⟨s0, s1⟩
        go_simp
        with_reducible rfl
       rotate_left
       ·simp only [Act.put, List.setIfInBounds_toArray, List.set_cons_zero, List.set_cons_succ, i64_w, i32_w]
        rfl
       refine take_ (i := 3) (N := some 40) (v := ?_) (a' := ?_) #[true, true, false, true, false, false, false, false, false, false, false, false, false, false, false, false, false, false, false, false, false, false, false, false, false, false] rfl rfl (take_ofW HT_.out HW_.out (by kernel_rfl)) (fun _ _ _ h => h) (Or.inl ⟨by rfl, ?_⟩) hHeld ?_ ?_
       rotate_left
       ·rintro w' ⟨s0, s1⟩
        go_simp
        with_reducible rfl
       rotate_left
       ·simp only [Act.put, List.setIfInBounds_toArray, List.set_cons_zero, List.set_cons_succ, i64_w, i32_w]
        rfl
       refine oN 2 39 #[true, true, true, true, false, false, false, false, false, false, false, false, false, false, false, false, false, false, false, false, false, false, false, false, false, false] HT_ (fun K hK => ?_)
       refine gS Try.func24 #[.agg #[.int .i64 t343, .int .i64 t344], .agg #[.int .i64 t343, .int .i64 t344]] ?_
       with_reducible refine (impl_SpotSame.calls t343 t344 t343 t344 t356 _ A29.out).mono ?_
       rintro e w81 ⟨rfl, hb⟩
       refine ⟨_, rfl, ?_⟩
       replace BK347 := bb (bk BK347) hb
       replace BK348 := bb (bk BK348) hb
       replace BK355 := bb (bk BK355) hb
       replace HB := hbb (hs_ HB) hb
       clear hb
       refine hK.out _ _ ⟨cw0 BK347, cw1 BK347⟩ (fun hHeld => ?_)
       clear hK K
       refine nP ?_
       refine oN 4 41 #[true, true, true, true, true, false, false, false, false, false, false, false, false, false, false, false, false, false, false, false, false, false, false, false, false, false] HT_ (fun K hK => ?_)
       refine gS Try.func26 #[.agg #[.int .i64 t343, .int .i64 t344]] ?_
       with_reducible refine (spec_SpotOk.calls t343 t344 t357 _ A30.out).mono ?_
       rintro e w82 ⟨rfl, hb⟩
       refine ⟨_, rfl, ?_⟩
       replace BK347 := bb (bk BK347) hb
       replace BK348 := bb (bk BK348) hb
       replace BK355 := bb (bk BK355) hb
       replace HB := hbb (hs_ HB) hb
       clear hb
       refine hK.out _ _ ⟨cw0 BK347, cw1 BK347⟩ (fun hHeld => ?_)
       clear hK K
       refine nP ?_
       refine pU 5 42 #[true, true, true, true, true, true, false, false, false, false, false, false, false, false, false, false, false, false, false, false, false, false, false, false, false, false] HT_ ?_
       refine pU 6 43 #[true, true, true, true, true, true, true, false, false, false, false, false, false, false, false, false, false, false, false, false, false, false, false, false, false, false] HT_ ?_
       refine pU 7 44 #[true, true, true, true, true, true, true, true, false, false, false, false, false, false, false, false, false, false, false, false, false, false, false, false, false, false] HT_ ?_
       refine pU 8 45 #[true, true, true, true, true, true, true, true, true, false, false, false, false, false, false, false, false, false, false, false, false, false, false, false, false, false] HT_ ?_
       refine pU 9 46 #[true, true, true, true, true, true, true, true, true, true, false, false, false, false, false, false, false, false, false, false, false, false, false, false, false, false] HT_ ?_
       refine pure_ (i := 10) (N := some 47) (v := undef) (a' := ?_) #[true, true, true, true, true, true, true, true, true, true, true, false, false, false, false, false, false, false, false, false, false, false, false, false, false, false] rfl rfl (any_of HT_.out (by kernel_rfl)) (fun _ _ _ h => h) (Or.inr ⟨by rfl, rfl⟩) ?_ ?_
       rotate_left
       ·simp only [Act.put, List.setIfInBounds_toArray, List.set_cons_zero, List.set_cons_succ, i64_w, i32_w]
        rfl
       refine pure_ (i := 11) (N := some 48) (v := undef) (a' := ?_) #[true, true, true, true, true, true, true, true, true, true, true, true, false, false, false, false, false, false, false, false, false, false, false, false, false, false] rfl rfl (any_of HT_.out (by kernel_rfl)) (fun _ _ _ h => h) (Or.inr ⟨by rfl, rfl⟩) ?_ ?_
       rotate_left
       ·simp only [Act.put, List.setIfInBounds_toArray, List.set_cons_zero, List.set_cons_succ, i64_w, i32_w]
        rfl
       refine pure_ (i := 12) (N := some 49) (v := undef) (a' := ?_) #[true, true, true, true, true, true, true, true, true, true, true, true, true, false, false, false, false, false, false, false, false, false, false, false, false, false] rfl rfl (any_of HT_.out (by kernel_rfl)) (fun _ _ _ h => h) (Or.inr ⟨by rfl, rfl⟩) ?_ ?_
       rotate_left
       ·simp only [Act.put, List.setIfInBounds_toArray, List.set_cons_zero, List.set_cons_succ, i64_w, i32_w]
        rfl
       refine pure_ (i := 13) (N := some 50) (v := undef) (a' := ?_) #[true, true, true, true, true, true, true, true, true, true, true, true, true, true, false, false, false, false, false, false, false, false, false, false, false, false] rfl rfl (any_of HT_.out (by kernel_rfl)) (fun _ _ _ h => h) (Or.inr ⟨by rfl, rfl⟩) ?_ ?_
       rotate_left
       ·simp only [Act.put, List.setIfInBounds_toArray, List.set_cons_zero, List.set_cons_succ, i64_w, i32_w]
        rfl
       refine pure_ (i := 14) (N := some 51) (v := undef) (a' := ?_) #[true, true, true, true, true, true, true, true, true, true, true, true, true, true, true, false, false, false, false, false, false, false, false, false, false, false] rfl rfl (any_of HT_.out (by kernel_rfl)) (fun _ _ _ h => h) (Or.inr ⟨by rfl, rfl⟩) ?_ ?_
       rotate_left
       ·simp only [Act.put, List.setIfInBounds_toArray, List.set_cons_zero, List.set_cons_succ, i64_w, i32_w]
        rfl
       refine pure_ (i := 15) (N := some 52) (v := undef) (a' := ?_) #[true, true, true, true, true, true, true, true, true, true, true, true, true, true, true, true, false, false, false, false, false, false, false, false, false, false] rfl rfl (any_of HT_.out (by kernel_rfl)) (fun _ _ _ h => h) (Or.inr ⟨by rfl, rfl⟩) ?_ ?_
       rotate_left
       ·simp only [Act.put, List.setIfInBounds_toArray, List.set_cons_zero, List.set_cons_succ, i64_w, i32_w]
        rfl
       refine pure_ (i := 16) (N := some 53) (v := undef) (a' := ?_) #[true, true, true, true, true, true, true, true, true, true, true, true, true, true, true, true, true, false, false, false, false, false, false, false, false, false] rfl rfl (any_of HT_.out (by kernel_rfl)) (fun _ _ _ h => h) (Or.inr ⟨by rfl, rfl⟩) ?_ ?_
       rotate_left
       ·simp only [Act.put, List.setIfInBounds_toArray, List.set_cons_zero, List.set_cons_succ, i64_w, i32_w]
        rfl
       refine pure_ (i := 17) (N := some 54) (v := undef) (a' := ?_) #[true, true, true, true, true, true, true, true, true, true, true, true, true, true, true, true, true, true, false, false, false, false, false, false, false, false] rfl rfl (any_of HT_.out (by kernel_rfl)) (fun _ _ _ h => h) (Or.inr ⟨by rfl, rfl⟩) ?_ ?_
       rotate_left
       ·simp only [Act.put, List.setIfInBounds_toArray, List.set_cons_zero, List.set_cons_succ, i64_w, i32_w]
        rfl
       refine pure_ (i := 18) (N := some 55) (v := undef) (a' := ?_) #[true, true, true, true, true, true, true, true, true, true, true, true, true, true, true, true, true, true, true, false, false, false, false, false, false, false] rfl rfl (any_of HT_.out (by kernel_rfl)) (fun _ _ _ h => h) (Or.inr ⟨by rfl, rfl⟩) ?_ ?_
       rotate_left
       ·simp only [Act.put, List.setIfInBounds_toArray, List.set_cons_zero, List.set_cons_succ, i64_w, i32_w]
        rfl
       refine pure_ (i := 19) (N := some 56) (v := undef) (a' := ?_) #[true, true, true, true, true, true, true, true, true, true, true, true, true, true, true, true, true, true, true, true, false, false, false, false, false, false] rfl rfl (any_of HT_.out (by kernel_rfl)) (fun _ _ _ h => h) (Or.inr ⟨by rfl, rfl⟩) ?_ ?_
       rotate_left
       ·simp only [Act.put, List.setIfInBounds_toArray, List.set_cons_zero, List.set_cons_succ, i64_w, i32_w]
        rfl
       refine pure_ (i := 20) (N := some 57) (v := undef) (a' := ?_) #[true, true, true, true, true, true, true, true, true, true, true, true, true, true, true, true, true, true, true, true, true, false, false, false, false, false] rfl rfl (any_of HT_.out (by kernel_rfl)) (fun _ _ _ h => h) (Or.inr ⟨by rfl, rfl⟩) ?_ ?_
       rotate_left
       ·simp only [Act.put, List.setIfInBounds_toArray, List.set_cons_zero, List.set_cons_succ, i64_w, i32_w]
        rfl
       refine pure_ (i := 21) (N := some 58) (v := undef) (a' := ?_) #[true, true, true, true, true, true, true, true, true, true, true, true, true, true, true, true, true, true, true, true, true, true, false, false, false, false] rfl rfl (any_of HT_.out (by kernel_rfl)) (fun _ _ _ h => h) (Or.inr ⟨by rfl, rfl⟩) ?_ ?_
       rotate_left
       ·simp only [Act.put, List.setIfInBounds_toArray, List.set_cons_zero, List.set_cons_succ, i64_w, i32_w]
        rfl
       refine pure_ (i := 22) (N := some 59) (v := undef) (a' := ?_) #[true, true, true, true, true, true, true, true, true, true, true, true, true, true, true, true, true, true, true, true, true, true, true, false, false, false] rfl rfl (any_of HT_.out (by kernel_rfl)) (fun _ _ _ h => h) (Or.inr ⟨by rfl, rfl⟩) ?_ ?_
       rotate_left
       ·simp only [Act.put, List.setIfInBounds_toArray, List.set_cons_zero, List.set_cons_succ, i64_w, i32_w]
        rfl
       refine pU 23 60 #[true, true, true, true, true, true, true, true, true, true, true, true, true, true, true, true, true, true, true, true, true, true, true, true, false, false] HT_ ?_
       refine pU 24 61 #[true, true, true, true, true, true, true, true, true, true, true, true, true, true, true, true, true, true, true, true, true, true, true, true, true, false] HT_ ?_
       refine pU 25 2 #[true, true, true, true, true, true, true, true, true, true, true, true, true, true, true, true, true, true, true, true, true, true, true, true, true, true] HT_ ?_
       refine done_ (done_of HT_.out (by kernel_rfl)) ?_
       try go_wp2
       go_ret
       exact ⟨by first | rfl | (simp [errW_none, errW_some] <;> rfl) | (simp [*, errW_none, errW_some] <;> rfl), hs_ HB⟩
     ·rw [if_neg c31] at H
      have c31b0 : (t356 == t357) = false := by simpa using c31
      (try (have c31b1 : decide (t356 = t357) = false := by simpa using c31))
      (try (have c31b2 : (t356 == t357) = false := by simpa using c31))
      (try (have c31b3 : ¬ (t356 = t357) := by simpa using c31))
      clear c31
      obtain rfl := Option.some.inj H
      have hnb83 := NB347_348.out
      have hnc83 := NB348_347.out
      obtain ⟨hcz84_0, hcz84_1, hfz84_0, hfz84_1⟩ := cz2 BK347
      obtain ⟨hcz85_0, hcz85_1, hfz85_0, hfz85_1⟩ := cz2 BK348
      try go_wp2_with (first | ((with_reducible refine gate_callee (f := 20) rfl ?_); refine gL 34 Try.func20 #[.agg #[.int .i64 t343, .int .i64 t344], .agg #[.int .i64 t345, .int .i64 t346]] ?_; (with_reducible refine (impl_SpotDist.calls kj4 t343 t344 t345 t346 t352 t353 t354 _ A28.out).mono ?_); rintro e w86 ⟨rfl, hb⟩; refine ⟨_, rfl, ?_⟩; replace BK347 := bb (bk BK347) hb; replace BK348 := bb (bk BK348) hb; replace HB := hbb (hs_ HB) hb; clear hb) | ((with_reducible refine gate_dst (N := 6) rfl ?_); refine bE 6 #[.int .i64 0, .int .i64 0] 29 ?_; intro gb355 hg w87 hbox hb; have BK355 := Aside0.mk (hbox); have GE355 := gw hg (hs_ HB); have GW355 := GE355; have NB347_355 := nl hg (bk BK347); have NB355_347 := ng hg (bk BK347); have NB348_355 := nl hg (bk BK348); have NB355_348 := ng hg (bk BK348); replace BK347 := bb (bk BK347) hb; replace BK348 := bb (bk BK348) hb; replace HB := hbb (hs_ HB) hb; clear hb hbox hg; have hnb88 := NB355_347.out; have hnc88 := NB347_355.out; have hnb89 := NB355_348.out; have hnc89 := NB348_355.out; obtain ⟨hcz90_0, hcz90_1, hfz90_0, hfz90_1⟩ := cz2 BK355))
      have n0_ : Aside0 (((w87.setCell ⟨gb355, 0, none⟩ (.int .i64 t352)).setCell ⟨gb355, 1, none⟩ (.int .i64 t353)).heap[gb347]? = some (.cells #[.int .i64 t343, .int .i64 t344] 24 (0, 0))) := ⟨bk1 BK347 NB347_355⟩
      have n1_ : Aside0 (((w87.setCell ⟨gb355, 0, none⟩ (.int .i64 t352)).setCell ⟨gb355, 1, none⟩ (.int .i64 t353)).heap[gb348]? = some (.cells #[.int .i64 t345, .int .i64 t346] 24 (0, 0))) := ⟨bk1 BK348 NB348_355⟩
      have n2_ : Aside0 (((w87.setCell ⟨gb355, 0, none⟩ (.int .i64 t352)).setCell ⟨gb355, 1, none⟩ (.int .i64 t353)).heap[gb355]? = some (.cells #[.int .i64 t352, .int .i64 t353] 29 (0, 0))) := ⟨bkp BK355⟩
      have n3_ : Aside0 (Below w.heap.size w ((w87.setCell ⟨gb355, 0, none⟩ (.int .i64 t352)).setCell ⟨gb355, 1, none⟩ (.int .i64 t353))) := ⟨hs_ HB⟩
      (try clear BK347)
      (try clear BK348)
      (try clear BK355)
      (try clear HB)
      generalize ((w87.setCell ⟨gb355, 0, none⟩ (.int .i64 t352)).setCell ⟨gb355, 1, none⟩ (.int .i64 t353)) = w91 at n0_ n1_ n2_ n3_ ⊢
      have BK347 := n0_
      have BK348 := n1_
      have BK355 := n2_
      have HB := n3_
      clear n0_ n1_ n2_ n3_
      replace BK347 := Aside0.mk (blk_drew BK347.out)
      replace BK348 := Aside0.mk (blk_drew BK348.out)
      replace BK355 := Aside0.mk (blk_drew BK355.out)
      replace HB := Aside0.mk (below_drew1 HB.out)
      refine start_ (n := 26) (S := fun w' => w'.cell? ⟨gb347, 0, none⟩ = some (.int .i64 t343) ∧ w'.cell? ⟨gb347, 1, none⟩ = some (.int .i64 t344)) (ds := []) #[false, false, false, false, false, false, false, false, false, false, false, false, false, false, false, false, false, false, false, false, false, false, false, false, false, false] (by kernel_rfl) rfl rfl ⟨cw0 BK347, cw1 BK347⟩ (fun hHeld => ?_); refine with_tabW laws_FnSpotSame.tab8 laws_FnSpotSame.bits8 (fun HT_ HW_ => ?_)
      generalize w91.drew = w92 at BK347 BK348 BK355 HB hHeld ⊢
      refine take_ (i := 0) (N := some 37) (v := ?_) (a' := ?_) #[true, false, false, false, false, false, false, false, false, false, false, false, false, false, false, false, false, false, false, false, false, false, false, false, false, false] rfl rfl (take_ofW HT_.out HW_.out (by kernel_rfl)) (fun _ _ _ h => h) (Or.inl ⟨by rfl, ?_⟩) hHeld ?_ ?_
      rotate_left
      ·rintro w' ⟨s0, s1⟩
       go_simp
       with_reducible rfl
      rotate_left
      ·simp only [Act.put, List.setIfInBounds_toArray, List.set_cons_zero, List.set_cons_succ, i64_w, i32_w]
       rfl
      refine take_ (i := 1) (N := some 38) (v := ?_) (a' := ?_) #[true, true, false, false, false, false, false, false, false, false, false, false, false, false, false, false, false, false, false, false, false, false, false, false, false, false] rfl rfl (take_ofW HT_.out HW_.out (by kernel_rfl)) (fun _ _ _ h => h) (Or.inl ⟨by rfl, ?_⟩) hHeld ?_ ?_
      rotate_left
      ·rintro w' ⟨s0, s1⟩
       go_simp
       with_reducible rfl
      rotate_left
      ·simp only [Act.put, List.setIfInBounds_toArray, List.set_cons_zero, List.set_cons_succ, i64_w, i32_w]
       rfl
      refine take_ (i := 3) (N := some 40) (v := ?_) (a' := ?_) #[true, true, false, true, false, false, false, false, false, false, false, false, false, false, false, false, false, false, false, false, false, false, false, false, false, false] rfl rfl (take_ofW HT_.out HW_.out (by kernel_rfl)) (fun _ _ _ h => h) (Or.inl ⟨by rfl, ?_⟩) hHeld ?_ ?_
      rotate_left
      ·rintro w' ⟨s0, s1⟩
       go_simp
       with_reducible rfl
      rotate_left
      ·simp only [Act.put, List.setIfInBounds_toArray, List.set_cons_zero, List.set_cons_succ, i64_w, i32_w]
       rfl
      refine oN 2 39 #[true, true, true, true, false, false, false, false, false, false, false, false, false, false, false, false, false, false, false, false, false, false, false, false, false, false] HT_ (fun K hK => ?_)
      refine gS Try.func24 #[.agg #[.int .i64 t343, .int .i64 t344], .agg #[.int .i64 t343, .int .i64 t344]] ?_
      with_reducible refine (impl_SpotSame.calls t343 t344 t343 t344 t356 _ A29.out).mono ?_
      rintro e w93 ⟨rfl, hb⟩
      refine ⟨_, rfl, ?_⟩
      replace BK347 := bb (bk BK347) hb
      replace BK348 := bb (bk BK348) hb
      replace BK355 := bb (bk BK355) hb
      replace HB := hbb (hs_ HB) hb
      clear hb
      refine hK.out _ _ ⟨cw0 BK347, cw1 BK347⟩ (fun hHeld => ?_)
      clear hK K
      refine nP ?_
      refine oN 4 41 #[true, true, true, true, true, false, false, false, false, false, false, false, false, false, false, false, false, false, false, false, false, false, false, false, false, false] HT_ (fun K hK => ?_)
      refine gS Try.func26 #[.agg #[.int .i64 t343, .int .i64 t344]] ?_
      with_reducible refine (spec_SpotOk.calls t343 t344 t357 _ A30.out).mono ?_
      rintro e w94 ⟨rfl, hb⟩
      refine ⟨_, rfl, ?_⟩
      replace BK347 := bb (bk BK347) hb
      replace BK348 := bb (bk BK348) hb
      replace BK355 := bb (bk BK355) hb
      replace HB := hbb (hs_ HB) hb
      clear hb
      refine hK.out _ _ ⟨cw0 BK347, cw1 BK347⟩ (fun hHeld => ?_)
      clear hK K
      refine nP ?_
      refine pU 5 42 #[true, true, true, true, true, true, false, false, false, false, false, false, false, false, false, false, false, false, false, false, false, false, false, false, false, false] HT_ ?_
      refine pU 6 43 #[true, true, true, true, true, true, true, false, false, false, false, false, false, false, false, false, false, false, false, false, false, false, false, false, false, false] HT_ ?_
      refine pure_ (i := 7) (N := some 44) (v := undef) (a' := ?_) #[true, true, true, true, true, true, true, true, false, false, false, false, false, false, false, false, false, false, false, false, false, false, false, false, false, false] rfl rfl (any_of HT_.out (by kernel_rfl)) (fun _ _ _ h => h) (Or.inr ⟨by rfl, rfl⟩) ?_ ?_
      rotate_left
      ·simp only [Act.put, List.setIfInBounds_toArray, List.set_cons_zero, List.set_cons_succ, i64_w, i32_w]
       rfl
      refine pure_ (i := 8) (N := some 45) (v := undef) (a' := ?_) #[true, true, true, true, true, true, true, true, true, false, false, false, false, false, false, false, false, false, false, false, false, false, false, false, false, false] rfl rfl (any_of HT_.out (by kernel_rfl)) (fun _ _ _ h => h) (Or.inr ⟨by rfl, rfl⟩) ?_ ?_
      rotate_left
      ·simp only [Act.put, List.setIfInBounds_toArray, List.set_cons_zero, List.set_cons_succ, i64_w, i32_w]
       rfl
      refine pure_ (i := 9) (N := some 46) (v := undef) (a' := ?_) #[true, true, true, true, true, true, true, true, true, true, false, false, false, false, false, false, false, false, false, false, false, false, false, false, false, false] rfl rfl (any_of HT_.out (by kernel_rfl)) (fun _ _ _ h => h) (Or.inr ⟨by rfl, rfl⟩) ?_ ?_
      rotate_left
      ·simp only [Act.put, List.setIfInBounds_toArray, List.set_cons_zero, List.set_cons_succ, i64_w, i32_w]
       rfl
      refine pure_ (i := 10) (N := some 47) (v := undef) (a' := ?_) #[true, true, true, true, true, true, true, true, true, true, true, false, false, false, false, false, false, false, false, false, false, false, false, false, false, false] rfl rfl (any_of HT_.out (by kernel_rfl)) (fun _ _ _ h => h) (Or.inr ⟨by rfl, rfl⟩) ?_ ?_
      rotate_left
      ·simp only [Act.put, List.setIfInBounds_toArray, List.set_cons_zero, List.set_cons_succ, i64_w, i32_w]
       rfl
      refine pure_ (i := 11) (N := some 48) (v := undef) (a' := ?_) #[true, true, true, true, true, true, true, true, true, true, true, true, false, false, false, false, false, false, false, false, false, false, false, false, false, false] rfl rfl (any_of HT_.out (by kernel_rfl)) (fun _ _ _ h => h) (Or.inr ⟨by rfl, rfl⟩) ?_ ?_
      rotate_left
      ·simp only [Act.put, List.setIfInBounds_toArray, List.set_cons_zero, List.set_cons_succ, i64_w, i32_w]
       rfl
      refine pure_ (i := 12) (N := some 49) (v := undef) (a' := ?_) #[true, true, true, true, true, true, true, true, true, true, true, true, true, false, false, false, false, false, false, false, false, false, false, false, false, false] rfl rfl (any_of HT_.out (by kernel_rfl)) (fun _ _ _ h => h) (Or.inr ⟨by rfl, rfl⟩) ?_ ?_
      rotate_left
      ·simp only [Act.put, List.setIfInBounds_toArray, List.set_cons_zero, List.set_cons_succ, i64_w, i32_w]
       rfl
      refine pure_ (i := 13) (N := some 50) (v := undef) (a' := ?_) #[true, true, true, true, true, true, true, true, true, true, true, true, true, true, false, false, false, false, false, false, false, false, false, false, false, false] rfl rfl (any_of HT_.out (by kernel_rfl)) (fun _ _ _ h => h) (Or.inr ⟨by rfl, rfl⟩) ?_ ?_
      rotate_left
      ·simp only [Act.put, List.setIfInBounds_toArray, List.set_cons_zero, List.set_cons_succ, i64_w, i32_w]
       rfl
      refine pure_ (i := 14) (N := some 51) (v := undef) (a' := ?_) #[true, true, true, true, true, true, true, true, true, true, true, true, true, true, true, false, false, false, false, false, false, false, false, false, false, false] rfl rfl (any_of HT_.out (by kernel_rfl)) (fun _ _ _ h => h) (Or.inr ⟨by rfl, rfl⟩) ?_ ?_
      rotate_left
      ·simp only [Act.put, List.setIfInBounds_toArray, List.set_cons_zero, List.set_cons_succ, i64_w, i32_w]
       rfl
      refine pure_ (i := 15) (N := some 52) (v := undef) (a' := ?_) #[true, true, true, true, true, true, true, true, true, true, true, true, true, true, true, true, false, false, false, false, false, false, false, false, false, false] rfl rfl (any_of HT_.out (by kernel_rfl)) (fun _ _ _ h => h) (Or.inr ⟨by rfl, rfl⟩) ?_ ?_
      rotate_left
      ·simp only [Act.put, List.setIfInBounds_toArray, List.set_cons_zero, List.set_cons_succ, i64_w, i32_w]
       rfl
      refine pure_ (i := 16) (N := some 53) (v := undef) (a' := ?_) #[true, true, true, true, true, true, true, true, true, true, true, true, true, true, true, true, true, false, false, false, false, false, false, false, false, false] rfl rfl (any_of HT_.out (by kernel_rfl)) (fun _ _ _ h => h) (Or.inr ⟨by rfl, rfl⟩) ?_ ?_
      rotate_left
      ·simp only [Act.put, List.setIfInBounds_toArray, List.set_cons_zero, List.set_cons_succ, i64_w, i32_w]
       rfl
      refine pure_ (i := 17) (N := some 54) (v := undef) (a' := ?_) #[true, true, true, true, true, true, true, true, true, true, true, true, true, true, true, true, true, true, false, false, false, false, false, false, false, false] rfl rfl (any_of HT_.out (by kernel_rfl)) (fun _ _ _ h => h) (Or.inr ⟨by rfl, rfl⟩) ?_ ?_
      rotate_left
      ·simp only [Act.put, List.setIfInBounds_toArray, List.set_cons_zero, List.set_cons_succ, i64_w, i32_w]
       rfl
      refine pure_ (i := 18) (N := some 55) (v := undef) (a' := ?_) #[true, true, true, true, true, true, true, true, true, true, true, true, true, true, true, true, true, true, true, false, false, false, false, false, false, false] rfl rfl (any_of HT_.out (by kernel_rfl)) (fun _ _ _ h => h) (Or.inr ⟨by rfl, rfl⟩) ?_ ?_
      rotate_left
      ·simp only [Act.put, List.setIfInBounds_toArray, List.set_cons_zero, List.set_cons_succ, i64_w, i32_w]
       rfl
      refine pure_ (i := 19) (N := some 56) (v := undef) (a' := ?_) #[true, true, true, true, true, true, true, true, true, true, true, true, true, true, true, true, true, true, true, true, false, false, false, false, false, false] rfl rfl (any_of HT_.out (by kernel_rfl)) (fun _ _ _ h => h) (Or.inr ⟨by rfl, rfl⟩) ?_ ?_
      rotate_left
      ·simp only [Act.put, List.setIfInBounds_toArray, List.set_cons_zero, List.set_cons_succ, i64_w, i32_w]
       rfl
      refine pure_ (i := 20) (N := some 57) (v := undef) (a' := ?_) #[true, true, true, true, true, true, true, true, true, true, true, true, true, true, true, true, true, true, true, true, true, false, false, false, false, false] rfl rfl (any_of HT_.out (by kernel_rfl)) (fun _ _ _ h => h) (Or.inr ⟨by rfl, rfl⟩) ?_ ?_
      rotate_left
      ·simp only [Act.put, List.setIfInBounds_toArray, List.set_cons_zero, List.set_cons_succ, i64_w, i32_w]
       rfl
      refine pure_ (i := 21) (N := some 58) (v := undef) (a' := ?_) #[true, true, true, true, true, true, true, true, true, true, true, true, true, true, true, true, true, true, true, true, true, true, false, false, false, false] rfl rfl (any_of HT_.out (by kernel_rfl)) (fun _ _ _ h => h) (Or.inr ⟨by rfl, rfl⟩) ?_ ?_
      rotate_left
      ·simp only [Act.put, List.setIfInBounds_toArray, List.set_cons_zero, List.set_cons_succ, i64_w, i32_w]
       rfl
      refine pure_ (i := 22) (N := some 59) (v := undef) (a' := ?_) #[true, true, true, true, true, true, true, true, true, true, true, true, true, true, true, true, true, true, true, true, true, true, true, false, false, false] rfl rfl (any_of HT_.out (by kernel_rfl)) (fun _ _ _ h => h) (Or.inr ⟨by rfl, rfl⟩) ?_ ?_
      rotate_left
      ·simp only [Act.put, List.setIfInBounds_toArray, List.set_cons_zero, List.set_cons_succ, i64_w, i32_w]
       rfl
      refine pure_ (i := 23) (N := some 60) (v := undef) (a' := ?_) #[true, true, true, true, true, true, true, true, true, true, true, true, true, true, true, true, true, true, true, true, true, true, true, true, false, false] rfl rfl (any_of HT_.out (by kernel_rfl)) (fun _ _ _ h => h) (Or.inr ⟨by rfl, rfl⟩) ?_ ?_
      rotate_left
      ·simp only [Act.put, List.setIfInBounds_toArray, List.set_cons_zero, List.set_cons_succ, i64_w, i32_w]
       rfl
      refine pU 24 61 #[true, true, true, true, true, true, true, true, true, true, true, true, true, true, true, true, true, true, true, true, true, true, true, true, true, false] HT_ ?_
      refine pU 25 2 #[true, true, true, true, true, true, true, true, true, true, true, true, true, true, true, true, true, true, true, true, true, true, true, true, true, true] HT_ ?_
      refine done_ (done_of HT_.out (by kernel_rfl)) ?_
      try go_wp2
      go_ret
      exact ⟨by first | rfl | (simp [errW_none, errW_some] <;> rfl) | (simp [*, errW_none, errW_some] <;> rfl), hs_ HB⟩


theorem drawSpotSame_tells {l : List Int} (hl : Bytes l) {k : Nat} (hk : 20 ≤ k) : ∃ pu pa qu qa, spec_DrawSpotSame.f k l = some (pu, pa, qu, qa) := by
 unfold spec_DrawSpotSame.f
 obtain ⟨b, h1, h2, h3⟩ := open_tells hl
 rw [h1]; simp only [Option.bind_some]
 obtain ⟨pu, pa, qu, qa, p, q1, q2, q3⟩ := spots_tells h2 h3 (show (0 : Int) ≤ 0 by omega) (by omega) hk
 rw [q1]; simp only [Option.bind_some]
 obtain ⟨v, s1, s2, s3⟩ := pick_tells h2 h3 (show 0 ≤ p by omega) (by omega) (show (3 : Int) < 1073741824 by omega) (k := k) (by omega)
 rw [s1]; simp only [Option.bind_some]
 obtain ⟨x, t1, t2, t3⟩ := pick_tells h2 h3 (show 0 ≤ p + 1 by omega) (by omega) (show (2 : Int) < 1073741824 by omega) (k := k) (by omega)
 rw [t1]; simp only [Option.bind_some]
 have w (a b : Int) := two_of t3 t2 a b
 by_cases c0 : v = 0
 ·rw [if_pos c0, if_pos (w 0 0).1, if_pos (w _ _).2]; exact ⟨_, _, _, _, rfl⟩
 ·rw [if_neg c0]; exact ⟨_, _, _, _, rfl⟩
theorem distR_in {pu pa qu qa : Int} (h : (Up pu ∧ Ar pa) ∧ (Up qu ∧ Ar qa)) : distR pu pa qu qa = ((distOf (squareM pu pa qu qa)).1, (distOf (squareM pu pa qu qa)).2, true) := if_pos h
theorem distR_out {pu pa qu qa : Int} (h : ¬ ((Up pu ∧ Ar pa) ∧ (Up qu ∧ Ar qa))) : distR pu pa qu qa = (0, 0, false) := if_neg h
theorem FnSpotSame_pure {l0 : List Int} (hl : Bytes l0) {k : Nat} (hk : 300 ≤ k) : laws_FnSpotSame.f (k + 1) l0 = some true := by
 unfold laws_FnSpotSame.f
 by_cases h : (l0.length : Int) > 1048576
 ·rw [if_pos h]
 rw [if_neg h]
 obtain ⟨pu, pa, qu, qa, hd⟩ := drawSpotSame_tells hl (k := k + 1) (by omega)
 rw [hd]; simp only [Option.bind_some]
 rw [(SpotSame_is pu pa qu qa).1, (SpotSame_is pu pa qu qa).2, (SpotSame_is qu qa pu pa).1]
 have e : decide ((Okay qu qa ∧ Okay pu pa) ∧ Same qu qa pu pa) = decide ((Okay pu pa ∧ Okay qu qa) ∧ Same pu pa qu qa) := by
  apply decide_eq_decide.2
  rw [same_sym, and_comm (a := Okay qu qa)]
 rw [e]
 simp only [Option.bind_some, bne_self_eq_false, beq_self_eq_true, Bool.not_true, Bool.not_false, Bool.or_false, Bool.or_self, Bool.and_self, Bool.false_eq_true, if_false, if_true]
 rw [laws_FnSpotSame.j0]
 simp only [Bool.false_eq_true, if_false]
 rw [(SpotDist_is pu pa qu qa (by omega)).1, (SpotSame_is pu pa pu pa).1, (SpotOk_is pu pa).2]
 have e2 : decide ((Okay pu pa ∧ Okay pu pa) ∧ Same pu pa pu pa) = decide (Up pu ∧ Ar pa) := by
  apply decide_eq_decide.2
  constructor
  ·rintro ⟨⟨h1, -⟩, -⟩; exact h1
  ·intro h1; exact ⟨⟨h1, h1⟩, rfl, .inl rfl⟩
 rw [e2]
 simp only [Option.bind_some, beq_self_eq_true, if_true]
 by_cases s : (Okay pu pa ∧ Okay qu qa) ∧ Same pu pa qu qa
 ·have z := dist_zero
  rw [distR_in ⟨s.1.1, s.1.2⟩, square_same s.2]
  simp [s, z, s.2.1]
 ·simp [s]
theorem FnSpotSame_true (A0 : Option Addr) (c0 : Nat) (l0 : List Int) (w : World) (hr0 : Kd.C (Kd.int .u8) w A0 l0.length l0) (hc0 : l0.length ≤ c0) (hw0 : ∀ x ∈ l0, (Lit.int .u8 x).wf = true) :
  Calls Try.prog 4 #[.slice A0 l0.length c0] w fun e w' => e = .returned (.bool true) ∧ Below w.heap.size w w' :=
 laws_FnSpotSame.calls 301 A0 c0 l0 true w hr0 hc0 (FnSpotSame_pure (bytes_of hw0) (by omega))

end Go.Proofs.Ytmcippkpgmehdaa.M
