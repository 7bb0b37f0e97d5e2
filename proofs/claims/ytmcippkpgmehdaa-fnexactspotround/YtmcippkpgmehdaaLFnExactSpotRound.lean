import Derived.Test.YtmcippkpgmehdaaPa
import Derived.Test.YtmcippkpgmehdaaMn
namespace Go.Proofs.Ytmcippkpgmehdaa.M
open Go.RowKit Go.Proofs.YtmcippkpgmehdaaW.PrintWords Go.Proofs.YtmcippkpgmehdaaW.PrintLast Go.Proofs.YtmcippkpgmehdaaW.PrintMore
attribute [local go_sem] max2_int min2_int max_two min_two max_three min_three max_four min_four
attribute [local go_sem high] eqA42 eqA29 eqA24
attribute [local go_sem] fld42_0 fld42_1 fld29_0 fld29_1 fld24_0 fld24_1 fld38_0 fld38_1 fld88_0 fld88_1 fld88_2 fld88_3 fld88_4
set_option linter.unusedVariables false
set_option linter.unusedSimpArgs false
/-! ### laws_FnExactSpotRound: function 14 -/
def laws_FnExactSpotRound.f (k : Nat) (a0_0 : Int) (a0_1 : Int) (a1_0 : Int) (a1_1 : Int) (a2 : Int) (a3 : Int) : Option (Bool) := (laws_toSpot.f a0_0 a0_1).bind fun bt465 => ((laws_toSpot.f a1_0 a1_1).bind fun bt467 => ((spec_SpotRound.f k bt465.1 bt465.2 bt467.1 bt467.2 a2 a3).bind fun bt469 => ((laws_toSpot.f a0_0 a0_1).bind fun bt471 => ((laws_toSpot.f a1_0 a1_1).bind fun bt473 => ((impl_SpotRound.f k bt471.1 bt471.2 bt473.1 bt473.2 a2 a3).bind fun bt475 => (if bt475.1 = bt469.1 then (if (bt475.2 != bt469.2) = true then (some false) else (some true)) else (some false)))))))
def laws_FnExactSpotRound.T1 : Bool × List (List Nat × List Nat) := (true, [([], []), ([0], [0]), ([], []), ([2, 1], [2]), ([], []), ([], []), ([1, 3, 4, 5, 3], [1, 3, 4, 5]), ([6], [6]), ([7], [7]), ([7], [7]), ([8, 6, 0, 1, 2, 3, 4, 5, 6, 7, 8], [8]), ([9, 10, 0, 1, 2, 3, 4, 5, 6, 7, 8, 9, 10], [9])])
def laws_FnExactSpotRound.B1 : List Nat := [0, 1, 0, 7, 0, 0, 63, 127, 255, 255, 511, 2047]
theorem laws_FnExactSpotRound.tab1 : rtab .any (opsOf Try.f14 1) = laws_FnExactSpotRound.T1 := by kernel_rfl
theorem laws_FnExactSpotRound.bits1 : waitsOk laws_FnExactSpotRound.T1.2 laws_FnExactSpotRound.B1 = true := by kernel_rfl
def laws_FnExactSpotRound.T2 : Bool × List (List Nat × List Nat) := (true, [([], []), ([0], [0]), ([], []), ([2, 1], [2]), ([], []), ([], []), ([1, 3, 4, 5, 3], [1, 3, 4, 5]), ([6], [6]), ([7], [7]), ([7], [7]), ([8, 6, 0, 1, 2, 3, 4, 5, 6, 7, 8], [8]), ([9, 10, 0, 1, 2, 3, 4, 5, 6, 7, 8, 9, 10], [9])])
def laws_FnExactSpotRound.B2 : List Nat := [0, 1, 0, 7, 0, 0, 63, 127, 255, 255, 511, 2047]
theorem laws_FnExactSpotRound.tab2 : rtab .any (opsOf Try.f14 2) = laws_FnExactSpotRound.T2 := by kernel_rfl
theorem laws_FnExactSpotRound.bits2 : waitsOk laws_FnExactSpotRound.T2.2 laws_FnExactSpotRound.B2 = true := by kernel_rfl
set_option maxHeartbeats 8000000 in
set_option maxRecDepth 100000 in
theorem laws_FnExactSpotRound.calls (k : Nat) (a0_0 : Int) (a0_1 : Int) (a1_0 : Int) (a1_1 : Int) (a2 : Int) (a3 : Int) (r : Bool) (w : World) (h : laws_FnExactSpotRound.f k a0_0 a0_1 a1_0 a1_1 a2 a3 = some r) :
  Calls Try.prog 14 #[.agg #[.int .i64 a0_0, .int .i64 a0_1], .agg #[.int .i64 a1_0, .int .i64 a1_1], .int .i64 a2, .int .i64 a3] w fun e w' => e = .returned (.bool r) ∧ Below w.heap.size w w' := by
 have hu38 := Try.underlying38
 have HB := Aside0.mk (Below.refl w.heap.size w)
 have H : ((laws_toSpot.f a0_0 a0_1).bind fun bt465 => ((laws_toSpot.f a1_0 a1_1).bind fun bt467 => ((spec_SpotRound.f k bt465.1 bt465.2 bt467.1 bt467.2 a2 a3).bind fun bt469 => ((laws_toSpot.f a0_0 a0_1).bind fun bt471 => ((laws_toSpot.f a1_0 a1_1).bind fun bt473 => ((impl_SpotRound.f k bt471.1 bt471.2 bt473.1 bt473.2 a2 a3).bind fun bt475 => (if bt475.1 = bt469.1 then (if (bt475.2 != bt469.2) = true then (some false) else (some true)) else (some false)))))))) = some r := h
 clear h
 replace H := Option.bind_eq_some_iff.mp H
 obtain ⟨⟨t465, t466⟩, A50, H⟩ := H
 replace H : ((laws_toSpot.f a1_0 a1_1).bind fun bt467 => ((spec_SpotRound.f k t465 t466 bt467.1 bt467.2 a2 a3).bind fun bt469 => ((laws_toSpot.f a0_0 a0_1).bind fun bt471 => ((laws_toSpot.f a1_0 a1_1).bind fun bt473 => ((impl_SpotRound.f k bt471.1 bt471.2 bt473.1 bt473.2 a2 a3).bind fun bt475 => (if bt475.1 = bt469.1 then (if (bt475.2 != bt469.2) = true then (some false) else (some true)) else (some false))))))) = some r := H
 have A5 := Aside0.mk A50
 clear A50
 replace H := Option.bind_eq_some_iff.mp H
 obtain ⟨⟨t467, t468⟩, A60, H⟩ := H
 replace H : ((spec_SpotRound.f k t465 t466 t467 t468 a2 a3).bind fun bt469 => ((laws_toSpot.f a0_0 a0_1).bind fun bt471 => ((laws_toSpot.f a1_0 a1_1).bind fun bt473 => ((impl_SpotRound.f k bt471.1 bt471.2 bt473.1 bt473.2 a2 a3).bind fun bt475 => (if bt475.1 = bt469.1 then (if (bt475.2 != bt469.2) = true then (some false) else (some true)) else (some false)))))) = some r := H
 have A6 := Aside0.mk A60
 clear A60
 replace H := Option.bind_eq_some_iff.mp H
 obtain ⟨⟨t469, t470⟩, A70, H⟩ := H
 replace H : ((laws_toSpot.f a0_0 a0_1).bind fun bt471 => ((laws_toSpot.f a1_0 a1_1).bind fun bt473 => ((impl_SpotRound.f k bt471.1 bt471.2 bt473.1 bt473.2 a2 a3).bind fun bt475 => (if bt475.1 = t469 then (if (bt475.2 != t470) = true then (some false) else (some true)) else (some false))))) = some r := H
 have A7 := Aside0.mk A70
 clear A70
 replace H := Option.bind_eq_some_iff.mp H
 obtain ⟨⟨t471, t472⟩, A80, H⟩ := H
 replace H : ((laws_toSpot.f a1_0 a1_1).bind fun bt473 => ((impl_SpotRound.f k t471 t472 bt473.1 bt473.2 a2 a3).bind fun bt475 => (if bt475.1 = t469 then (if (bt475.2 != t470) = true then (some false) else (some true)) else (some false)))) = some r := H
 have A8 := Aside0.mk A80
 clear A80
 replace H := Option.bind_eq_some_iff.mp H
 obtain ⟨⟨t473, t474⟩, A90, H⟩ := H
 replace H : ((impl_SpotRound.f k t471 t472 t473 t474 a2 a3).bind fun bt475 => (if bt475.1 = t469 then (if (bt475.2 != t470) = true then (some false) else (some true)) else (some false))) = some r := H
 have A9 := Aside0.mk A90
 clear A90
 replace H := Option.bind_eq_some_iff.mp H
 obtain ⟨⟨t475, t476⟩, A100, H⟩ := H
 replace H : (if t475 = t469 then (if (t476 != t470) = true then (some false) else (some true)) else (some false)) = some r := H
 have A10 := Aside0.mk A100
 clear A100
 by_cases c11 : t475 = t469
 ·rw [if_pos c11] at H
  have c11b0 : (t475 == t469) = true := beq_iff_eq.mpr c11
  have c11b1 : (t475 != t469) = false := bne_eq_false_iff_eq.mpr c11
  clear c11
  by_cases c12 : (t476 != t470) = true
  ·rw [if_pos c12] at H
   have c12b0 : (t476 != t470) = true := c12
   (try (have c12b1 : decide (t476 = t470) = false := by simpa using c12))
   (try (have c12b2 : (t476 == t470) = false := by simpa using c12))
   (try (have c12b3 : ¬ (t476 = t470) := by simpa using c12))
   clear c12
   obtain rfl := Option.some.inj H
   go_enter Try.func14, Try.ntmps14
   try go_wp2_with (first | ((with_reducible refine gate_dst (N := 4) rfl ?_); refine bE 4 #[.int .i64 a0_0, .int .i64 a0_1] 38 ?_; intro gb463 hg w13 hbox hb; have BK463 := Aside0.mk (hbox); have GE463 := gw hg (h0_ HB); have GW463 := GE463; replace HB := hbb (h0_ HB) hb; clear hb hbox hg) | ((with_reducible refine gate_dst (N := 5) rfl ?_); refine bE 5 #[.int .i64 a1_0, .int .i64 a1_1] 38 ?_; intro gb464 hg w14 hbox hb; have BK464 := Aside0.mk (hbox); have GE464 := gw hg (hs_ HB); have GW464 := GE464; have NB463_464 := nl hg (bk BK463); have NB464_463 := ng hg (bk BK463); replace BK463 := bb (bk BK463) hb; replace HB := hbb (hs_ HB) hb; clear hb hbox hg))
   replace BK463 := Aside0.mk (blk_drew BK463.out)
   replace BK464 := Aside0.mk (blk_drew BK464.out)
   replace HB := Aside0.mk (below_drew1 HB.out)
   refine start_ (n := 12) (S := fun w' => w'.cell? ⟨gb463, 0, none⟩ = some (.int .i64 a0_0) ∧ w'.cell? ⟨gb463, 1, none⟩ = some (.int .i64 a0_1) ∧ w'.cell? ⟨gb464, 0, none⟩ = some (.int .i64 a1_0) ∧ w'.cell? ⟨gb464, 1, none⟩ = some (.int .i64 a1_1)) (ds := []) #[false, false, false, false, false, false, false, false, false, false, false, false] (by kernel_rfl) rfl rfl ⟨cw0 BK463, cw1 BK463, cw0 BK464, cw1 BK464⟩ (fun hHeld => ?_); refine with_tabW laws_FnExactSpotRound.tab1 laws_FnExactSpotRound.bits1 (fun HT_ HW_ => ?_)
   generalize w14.drew = w15 at BK463 BK464 HB hHeld ⊢
   refine pU 4 18 #[false, false, false, false, true, false, false, false, false, false, false, false] HT_ ?_
   refine pU 5 19 #[false, false, false, false, true, true, false, false, false, false, false, false] HT_ ?_
   refine take_ (i := 0) (N := some 14) (v := ?_) (a' := ?_) #[true, false, false, false, true, true, false, false, false, false, false, false] rfl rfl (take_ofW HT_.out HW_.out (by kernel_rfl)) (fun _ _ _ h => h) (Or.inl ⟨by rfl, ?_⟩) hHeld ?_ ?_
   rotate_left
   ·rintro w' ⟨s0, s1, s2, s3⟩
    go_simp
    with_reducible rfl
   rotate_left
   ·simp only [Act.put, List.setIfInBounds_toArray, List.set_cons_zero, List.set_cons_succ, i64_w, i32_w]
    rfl
   refine take_ (i := 2) (N := some 16) (v := ?_) (a' := ?_) #[true, false, true, false, true, true, false, false, false, false, false, false] rfl rfl (take_ofW HT_.out HW_.out (by kernel_rfl)) (fun _ _ _ h => h) (Or.inl ⟨by rfl, ?_⟩) hHeld ?_ ?_
   rotate_left
   ·rintro w' ⟨s0, s1, s2, s3⟩
    go_simp
    with_reducible rfl
   rotate_left
   ·simp only [Act.put, List.setIfInBounds_toArray, List.set_cons_zero, List.set_cons_succ, i64_w, i32_w]
    rfl
   refine oN 1 15 #[true, true, true, false, true, true, false, false, false, false, false, false] HT_ (fun K hK => ?_)
   refine gS Try.func28 #[.agg #[.int .i64 a0_0, .int .i64 a0_1]] ?_
   with_reducible refine (laws_toSpot.calls a0_0 a0_1 t465 t466 _ A5.out).mono ?_
   rintro e w16 ⟨rfl, hb⟩
   refine ⟨_, rfl, ?_⟩
   replace BK463 := bb (bk BK463) hb
   replace BK464 := bb (bk BK464) hb
   replace HB := hbb (hs_ HB) hb
   clear hb
   refine hK.out _ _ ⟨cw0 BK463, cw1 BK463, cw0 BK464, cw1 BK464⟩ (fun hHeld => ?_)
   clear hK K
   refine nP ?_
   refine oN 3 17 #[true, true, true, true, true, true, false, false, false, false, false, false] HT_ (fun K hK => ?_)
   refine gS Try.func28 #[.agg #[.int .i64 a1_0, .int .i64 a1_1]] ?_
   with_reducible refine (laws_toSpot.calls a1_0 a1_1 t467 t468 _ A6.out).mono ?_
   rintro e w17 ⟨rfl, hb⟩
   refine ⟨_, rfl, ?_⟩
   replace BK463 := bb (bk BK463) hb
   replace BK464 := bb (bk BK464) hb
   replace HB := hbb (hs_ HB) hb
   clear hb
   refine hK.out _ _ ⟨cw0 BK463, cw1 BK463, cw0 BK464, cw1 BK464⟩ (fun hHeld => ?_)
   clear hK K
   refine nP ?_
   refine oN 6 20 #[true, true, true, true, true, true, true, false, false, false, false, false] HT_ (fun K hK => ?_)
   refine gS Try.func37 #[.agg #[.int .i64 t465, .int .i64 t466], .agg #[.int .i64 t467, .int .i64 t468], .int .i64 a2, .int .i64 a3] ?_
   with_reducible refine (spec_SpotRound.calls k t465 t466 t467 t468 a2 a3 t469 t470 _ A7.out).mono ?_
   rintro e w18 ⟨rfl, hb⟩
   refine ⟨_, rfl, ?_⟩
   replace BK463 := bb (bk BK463) hb
   replace BK464 := bb (bk BK464) hb
   replace HB := hbb (hs_ HB) hb
   clear hb
   refine hK.out _ _ ⟨cw0 BK463, cw1 BK463, cw0 BK464, cw1 BK464⟩ (fun hHeld => ?_)
   clear hK K
   refine nP ?_
   refine pU 7 13 #[true, true, true, true, true, true, true, true, false, false, false, false] HT_ ?_
   refine pU 8 21 #[true, true, true, true, true, true, true, true, true, false, false, false] HT_ ?_
   refine pU 9 22 #[true, true, true, true, true, true, true, true, true, true, false, false] HT_ ?_
   refine pU 10 9 #[true, true, true, true, true, true, true, true, true, true, true, false] HT_ ?_
   refine pU 11 10 #[true, true, true, true, true, true, true, true, true, true, true, true] HT_ ?_
   refine done_ (done_of HT_.out (by kernel_rfl)) ?_
   try go_wp2
   replace BK463 := Aside0.mk (blk_drew BK463.out)
   replace BK464 := Aside0.mk (blk_drew BK464.out)
   replace HB := Aside0.mk (below_drew1 HB.out)
   refine start_ (n := 12) (S := fun w' => w'.cell? ⟨gb463, 0, none⟩ = some (.int .i64 a0_0) ∧ w'.cell? ⟨gb463, 1, none⟩ = some (.int .i64 a0_1) ∧ w'.cell? ⟨gb464, 0, none⟩ = some (.int .i64 a1_0) ∧ w'.cell? ⟨gb464, 1, none⟩ = some (.int .i64 a1_1)) (ds := []) #[false, false, false, false, false, false, false, false, false, false, false, false] (by kernel_rfl) rfl rfl ⟨cw0 BK463, cw1 BK463, cw0 BK464, cw1 BK464⟩ (fun hHeld => ?_); refine with_tabW laws_FnExactSpotRound.tab2 laws_FnExactSpotRound.bits2 (fun HT_ HW_ => ?_)
   generalize w18.drew = w19 at BK463 BK464 HB hHeld ⊢
   refine pU 4 28 #[false, false, false, false, true, false, false, false, false, false, false, false] HT_ ?_
   refine pU 5 29 #[false, false, false, false, true, true, false, false, false, false, false, false] HT_ ?_
   refine take_ (i := 0) (N := some 24) (v := ?_) (a' := ?_) #[true, false, false, false, true, true, false, false, false, false, false, false] rfl rfl (take_ofW HT_.out HW_.out (by kernel_rfl)) (fun _ _ _ h => h) (Or.inl ⟨by rfl, ?_⟩) hHeld ?_ ?_
   rotate_left
   ·rintro w' ⟨s0, s1, s2, s3⟩
    go_simp
    with_reducible rfl
   rotate_left
   ·simp only [Act.put, List.setIfInBounds_toArray, List.set_cons_zero, List.set_cons_succ, i64_w, i32_w]
    rfl
   refine take_ (i := 2) (N := some 26) (v := ?_) (a' := ?_) #[true, false, true, false, true, true, false, false, false, false, false, false] rfl rfl (take_ofW HT_.out HW_.out (by kernel_rfl)) (fun _ _ _ h => h) (Or.inl ⟨by rfl, ?_⟩) hHeld ?_ ?_
   rotate_left
   ·rintro w' ⟨s0, s1, s2, s3⟩
    go_simp
    with_reducible rfl
   rotate_left
   ·simp only [Act.put, List.setIfInBounds_toArray, List.set_cons_zero, List.set_cons_succ, i64_w, i32_w]
    rfl
   refine oN 1 25 #[true, true, true, false, true, true, false, false, false, false, false, false] HT_ (fun K hK => ?_)
   refine gS Try.func28 #[.agg #[.int .i64 a0_0, .int .i64 a0_1]] ?_
   with_reducible refine (laws_toSpot.calls a0_0 a0_1 t471 t472 _ A8.out).mono ?_
   rintro e w20 ⟨rfl, hb⟩
   refine ⟨_, rfl, ?_⟩
   replace BK463 := bb (bk BK463) hb
   replace BK464 := bb (bk BK464) hb
   replace HB := hbb (hs_ HB) hb
   clear hb
   refine hK.out _ _ ⟨cw0 BK463, cw1 BK463, cw0 BK464, cw1 BK464⟩ (fun hHeld => ?_)
   clear hK K
   refine nP ?_
   refine oN 3 27 #[true, true, true, true, true, true, false, false, false, false, false, false] HT_ (fun K hK => ?_)
   refine gS Try.func28 #[.agg #[.int .i64 a1_0, .int .i64 a1_1]] ?_
   with_reducible refine (laws_toSpot.calls a1_0 a1_1 t473 t474 _ A9.out).mono ?_
   rintro e w21 ⟨rfl, hb⟩
   refine ⟨_, rfl, ?_⟩
   replace BK463 := bb (bk BK463) hb
   replace BK464 := bb (bk BK464) hb
   replace HB := hbb (hs_ HB) hb
   clear hb
   refine hK.out _ _ ⟨cw0 BK463, cw1 BK463, cw0 BK464, cw1 BK464⟩ (fun hHeld => ?_)
   clear hK K
   refine nP ?_
   refine oN 6 30 #[true, true, true, true, true, true, true, false, false, false, false, false] HT_ (fun K hK => ?_)
   refine gS Try.func38 #[.agg #[.int .i64 t471, .int .i64 t472], .agg #[.int .i64 t473, .int .i64 t474], .int .i64 a2, .int .i64 a3] ?_
   with_reducible refine (impl_SpotRound.calls k t471 t472 t473 t474 a2 a3 t475 t476 _ A10.out).mono ?_
   rintro e w22 ⟨rfl, hb⟩
   refine ⟨_, rfl, ?_⟩
   replace BK463 := bb (bk BK463) hb
   replace BK464 := bb (bk BK464) hb
   replace HB := hbb (hs_ HB) hb
   clear hb
   refine hK.out _ _ ⟨cw0 BK463, cw1 BK463, cw0 BK464, cw1 BK464⟩ (fun hHeld => ?_)
   clear hK K
   refine nP ?_
   refine pU 7 23 #[true, true, true, true, true, true, true, true, false, false, false, false] HT_ ?_
   refine pU 8 31 #[true, true, true, true, true, true, true, true, true, false, false, false] HT_ ?_
   refine pU 9 32 #[true, true, true, true, true, true, true, true, true, true, false, false] HT_ ?_
   refine pU 10 11 #[true, true, true, true, true, true, true, true, true, true, true, false] HT_ ?_
   refine pU 11 12 #[true, true, true, true, true, true, true, true, true, true, true, true] HT_ ?_
   refine done_ (done_of HT_.out (by kernel_rfl)) ?_
   try go_wp2
   go_ret
   exact ⟨by first | rfl | (simp [errW_none, errW_some] <;> rfl) | (simp [*, errW_none, errW_some] <;> rfl), hs_ HB⟩
  ·rw [if_neg c12] at H
   have c12b0 : (t476 != t470) = false := by simpa using c12
   (try (have c12b1 : decide (t476 = t470) = true := by simpa using c12))
   (try (have c12b2 : (t476 == t470) = true := by simpa using c12))
   clear c12
   obtain rfl := Option.some.inj H
   go_enter Try.func14, Try.ntmps14
   try go_wp2_with (first | ((with_reducible refine gate_dst (N := 4) rfl ?_); refine bE 4 #[.int .i64 a0_0, .int .i64 a0_1] 38 ?_; intro gb463 hg w23 hbox hb; have BK463 := Aside0.mk (hbox); have GE463 := gw hg (h0_ HB); have GW463 := GE463; replace HB := hbb (h0_ HB) hb; clear hb hbox hg) | ((with_reducible refine gate_dst (N := 5) rfl ?_); refine bE 5 #[.int .i64 a1_0, .int .i64 a1_1] 38 ?_; intro gb464 hg w24 hbox hb; have BK464 := Aside0.mk (hbox); have GE464 := gw hg (hs_ HB); have GW464 := GE464; have NB463_464 := nl hg (bk BK463); have NB464_463 := ng hg (bk BK463); replace BK463 := bb (bk BK463) hb; replace HB := hbb (hs_ HB) hb; clear hb hbox hg))
   replace BK463 := Aside0.mk (blk_drew BK463.out)
   replace BK464 := Aside0.mk (blk_drew BK464.out)
   replace HB := Aside0.mk (below_drew1 HB.out)
   refine start_ (n := 12) (S := fun w' => w'.cell? ⟨gb463, 0, none⟩ = some (.int .i64 a0_0) ∧ w'.cell? ⟨gb463, 1, none⟩ = some (.int .i64 a0_1) ∧ w'.cell? ⟨gb464, 0, none⟩ = some (.int .i64 a1_0) ∧ w'.cell? ⟨gb464, 1, none⟩ = some (.int .i64 a1_1)) (ds := []) #[false, false, false, false, false, false, false, false, false, false, false, false] (by kernel_rfl) rfl rfl ⟨cw0 BK463, cw1 BK463, cw0 BK464, cw1 BK464⟩ (fun hHeld => ?_); refine with_tabW laws_FnExactSpotRound.tab1 laws_FnExactSpotRound.bits1 (fun HT_ HW_ => ?_)
   generalize w24.drew = w25 at BK463 BK464 HB hHeld ⊢
   refine pU 4 18 #[false, false, false, false, true, false, false, false, false, false, false, false] HT_ ?_
   refine pU 5 19 #[false, false, false, false, true, true, false, false, false, false, false, false] HT_ ?_
   refine take_ (i := 0) (N := some 14) (v := ?_) (a' := ?_) #[true, false, false, false, true, true, false, false, false, false, false, false] rfl rfl (take_ofW HT_.out HW_.out (by kernel_rfl)) (fun _ _ _ h => h) (Or.inl ⟨by rfl, ?_⟩) hHeld ?_ ?_
   rotate_left
   ·rintro w' ⟨s0, s1, s2, s3⟩
    go_simp
    with_reducible rfl
   rotate_left
   ·simp only [Act.put, List.setIfInBounds_toArray, List.set_cons_zero, List.set_cons_succ, i64_w, i32_w]
    rfl
   refine take_ (i := 2) (N := some 16) (v := ?_) (a' := ?_) #[true, false, true, false, true, true, false, false, false, false, false, false] rfl rfl (take_ofW HT_.out HW_.out (by kernel_rfl)) (fun _ _ _ h => h) (Or.inl ⟨by rfl, ?_⟩) hHeld ?_ ?_
   rotate_left
   ·rintro w' ⟨s0, s1, s2, s3⟩
    go_simp
    with_reducible rfl
   rotate_left
   ·simp only [Act.put, List.setIfInBounds_toArray, List.set_cons_zero, List.set_cons_succ, i64_w, i32_w]
    rfl
   refine oN 1 15 #[true, true, true, false, true, true, false, false, false, false, false, false] HT_ (fun K hK => ?_)
   refine gS Try.func28 #[.agg #[.int .i64 a0_0, .int .i64 a0_1]] ?_
   with_reducible refine (laws_toSpot.calls a0_0 a0_1 t465 t466 _ A5.out).mono ?_
   rintro e w26 ⟨rfl, hb⟩
   refine ⟨_, rfl, ?_⟩
   replace BK463 := bb (bk BK463) hb
   replace BK464 := bb (bk BK464) hb
   replace HB := hbb (hs_ HB) hb
   clear hb
   refine hK.out _ _ ⟨cw0 BK463, cw1 BK463, cw0 BK464, cw1 BK464⟩ (fun hHeld => ?_)
   clear hK K
   refine nP ?_
   refine oN 3 17 #[true, true, true, true, true, true, false, false, false, false, false, false] HT_ (fun K hK => ?_)
   refine gS Try.func28 #[.agg #[.int .i64 a1_0, .int .i64 a1_1]] ?_
   with_reducible refine (laws_toSpot.calls a1_0 a1_1 t467 t468 _ A6.out).mono ?_
   rintro e w27 ⟨rfl, hb⟩
   refine ⟨_, rfl, ?_⟩
   replace BK463 := bb (bk BK463) hb
   replace BK464 := bb (bk BK464) hb
   replace HB := hbb (hs_ HB) hb
   clear hb
   refine hK.out _ _ ⟨cw0 BK463, cw1 BK463, cw0 BK464, cw1 BK464⟩ (fun hHeld => ?_)
   clear hK K
   refine nP ?_
   refine oN 6 20 #[true, true, true, true, true, true, true, false, false, false, false, false] HT_ (fun K hK => ?_)
   refine gS Try.func37 #[.agg #[.int .i64 t465, .int .i64 t466], .agg #[.int .i64 t467, .int .i64 t468], .int .i64 a2, .int .i64 a3] ?_
   with_reducible refine (spec_SpotRound.calls k t465 t466 t467 t468 a2 a3 t469 t470 _ A7.out).mono ?_
   rintro e w28 ⟨rfl, hb⟩
   refine ⟨_, rfl, ?_⟩
   replace BK463 := bb (bk BK463) hb
   replace BK464 := bb (bk BK464) hb
   replace HB := hbb (hs_ HB) hb
   clear hb
   refine hK.out _ _ ⟨cw0 BK463, cw1 BK463, cw0 BK464, cw1 BK464⟩ (fun hHeld => ?_)
   clear hK K
   refine nP ?_
   refine pU 7 13 #[true, true, true, true, true, true, true, true, false, false, false, false] HT_ ?_
   refine pU 8 21 #[true, true, true, true, true, true, true, true, true, false, false, false] HT_ ?_
   refine pU 9 22 #[true, true, true, true, true, true, true, true, true, true, false, false] HT_ ?_
   refine pU 10 9 #[true, true, true, true, true, true, true, true, true, true, true, false] HT_ ?_
   refine pU 11 10 #[true, true, true, true, true, true, true, true, true, true, true, true] HT_ ?_
   refine done_ (done_of HT_.out (by kernel_rfl)) ?_
   try go_wp2
   replace BK463 := Aside0.mk (blk_drew BK463.out)
   replace BK464 := Aside0.mk (blk_drew BK464.out)
   replace HB := Aside0.mk (below_drew1 HB.out)
   refine start_ (n := 12) (S := fun w' => w'.cell? ⟨gb463, 0, none⟩ = some (.int .i64 a0_0) ∧ w'.cell? ⟨gb463, 1, none⟩ = some (.int .i64 a0_1) ∧ w'.cell? ⟨gb464, 0, none⟩ = some (.int .i64 a1_0) ∧ w'.cell? ⟨gb464, 1, none⟩ = some (.int .i64 a1_1)) (ds := []) #[false, false, false, false, false, false, false, false, false, false, false, false] (by kernel_rfl) rfl rfl ⟨cw0 BK463, cw1 BK463, cw0 BK464, cw1 BK464⟩ (fun hHeld => ?_); refine with_tabW laws_FnExactSpotRound.tab2 laws_FnExactSpotRound.bits2 (fun HT_ HW_ => ?_)
   generalize w28.drew = w29 at BK463 BK464 HB hHeld ⊢
   refine pU 4 28 #[false, false, false, false, true, false, false, false, false, false, false, false] HT_ ?_
   refine pU 5 29 #[false, false, false, false, true, true, false, false, false, false, false, false] HT_ ?_
   refine take_ (i := 0) (N := some 24) (v := ?_) (a' := ?_) #[true, false, false, false, true, true, false, false, false, false, false, false] rfl rfl (take_ofW HT_.out HW_.out (by kernel_rfl)) (fun _ _ _ h => h) (Or.inl ⟨by rfl, ?_⟩) hHeld ?_ ?_
   rotate_left
   ·rintro w' ⟨s0, s1, s2, s3⟩
    go_simp
    with_reducible rfl
   rotate_left
   ·simp only [Act.put, List.setIfInBounds_toArray, List.set_cons_zero, List.set_cons_succ, i64_w, i32_w]
    rfl
   refine take_ (i := 2) (N := some 26) (v := ?_) (a' := ?_) #[true, false, true, false, true, true, false, false, false, false, false, false] rfl rfl (take_ofW HT_.out HW_.out (by kernel_rfl)) (fun _ _ _ h => h) (Or.inl ⟨by rfl, ?_⟩) hHeld ?_ ?_
   rotate_left
   ·rintro w' ⟨s0, s1, s2, s3⟩
    go_simp
    with_reducible rfl
   rotate_left
   ·simp only [Act.put, List.setIfInBounds_toArray, List.set_cons_zero, List.set_cons_succ, i64_w, i32_w]
    rfl
   refine oN 1 25 #[true, true, true, false, true, true, false, false, false, false, false, false] HT_ (fun K hK => ?_)
   refine gS Try.func28 #[.agg #[.int .i64 a0_0, .int .i64 a0_1]] ?_
   with_reducible refine (laws_toSpot.calls a0_0 a0_1 t471 t472 _ A8.out).mono ?_
   rintro e w30 ⟨rfl, hb⟩
   refine ⟨_, rfl, ?_⟩
   replace BK463 := bb (bk BK463) hb
   replace BK464 := bb (bk BK464) hb
   replace HB := hbb (hs_ HB) hb
   clear hb
   refine hK.out _ _ ⟨cw0 BK463, cw1 BK463, cw0 BK464, cw1 BK464⟩ (fun hHeld => ?_)
   clear hK K
   refine nP ?_
   refine oN 3 27 #[true, true, true, true, true, true, false, false, false, false, false, false] HT_ (fun K hK => ?_)
   refine gS Try.func28 #[.agg #[.int .i64 a1_0, .int .i64 a1_1]] ?_
   with_reducible refine (laws_toSpot.calls a1_0 a1_1 t473 t474 _ A9.out).mono ?_
   rintro e w31 ⟨rfl, hb⟩
   refine ⟨_, rfl, ?_⟩
   replace BK463 := bb (bk BK463) hb
   replace BK464 := bb (bk BK464) hb
   replace HB := hbb (hs_ HB) hb
   clear hb
   refine hK.out _ _ ⟨cw0 BK463, cw1 BK463, cw0 BK464, cw1 BK464⟩ (fun hHeld => ?_)
   clear hK K
   refine nP ?_
   refine oN 6 30 #[true, true, true, true, true, true, true, false, false, false, false, false] HT_ (fun K hK => ?_)
   refine gS Try.func38 #[.agg #[.int .i64 t471, .int .i64 t472], .agg #[.int .i64 t473, .int .i64 t474], .int .i64 a2, .int .i64 a3] ?_
   with_reducible refine (impl_SpotRound.calls k t471 t472 t473 t474 a2 a3 t475 t476 _ A10.out).mono ?_
   rintro e w32 ⟨rfl, hb⟩
   refine ⟨_, rfl, ?_⟩
   replace BK463 := bb (bk BK463) hb
   replace BK464 := bb (bk BK464) hb
   replace HB := hbb (hs_ HB) hb
   clear hb
   refine hK.out _ _ ⟨cw0 BK463, cw1 BK463, cw0 BK464, cw1 BK464⟩ (fun hHeld => ?_)
   clear hK K
   refine nP ?_
   refine pU 7 23 #[true, true, true, true, true, true, true, true, false, false, false, false] HT_ ?_
   refine pU 8 31 #[true, true, true, true, true, true, true, true, true, false, false, false] HT_ ?_
   refine pU 9 32 #[true, true, true, true, true, true, true, true, true, true, false, false] HT_ ?_
   refine pU 10 11 #[true, true, true, true, true, true, true, true, true, true, true, false] HT_ ?_
   refine pU 11 12 #[true, true, true, true, true, true, true, true, true, true, true, true] HT_ ?_
   refine done_ (done_of HT_.out (by kernel_rfl)) ?_
   try go_wp2
   go_ret
   exact ⟨by first | rfl | (simp [errW_none, errW_some] <;> rfl) | (simp [*, errW_none, errW_some] <;> rfl), hs_ HB⟩
 ·rw [if_neg c11] at H
  have c11b0 : (t475 == t469) = false := beq_eq_false_iff_ne.mpr c11
  have c11b1 : (t475 != t469) = true := bne_iff_ne.mpr c11
  obtain rfl := Option.some.inj H
  go_enter Try.func14, Try.ntmps14
  try go_wp2_with (first | ((with_reducible refine gate_dst (N := 4) rfl ?_); refine bE 4 #[.int .i64 a0_0, .int .i64 a0_1] 38 ?_; intro gb463 hg w33 hbox hb; have BK463 := Aside0.mk (hbox); have GE463 := gw hg (h0_ HB); have GW463 := GE463; replace HB := hbb (h0_ HB) hb; clear hb hbox hg) | ((with_reducible refine gate_dst (N := 5) rfl ?_); refine bE 5 #[.int .i64 a1_0, .int .i64 a1_1] 38 ?_; intro gb464 hg w34 hbox hb; have BK464 := Aside0.mk (hbox); have GE464 := gw hg (hs_ HB); have GW464 := GE464; have NB463_464 := nl hg (bk BK463); have NB464_463 := ng hg (bk BK463); replace BK463 := bb (bk BK463) hb; replace HB := hbb (hs_ HB) hb; clear hb hbox hg))
  replace BK463 := Aside0.mk (blk_drew BK463.out)
  replace BK464 := Aside0.mk (blk_drew BK464.out)
  replace HB := Aside0.mk (below_drew1 HB.out)
  refine start_ (n := 12) (S := fun w' => w'.cell? ⟨gb463, 0, none⟩ = some (.int .i64 a0_0) ∧ w'.cell? ⟨gb463, 1, none⟩ = some (.int .i64 a0_1) ∧ w'.cell? ⟨gb464, 0, none⟩ = some (.int .i64 a1_0) ∧ w'.cell? ⟨gb464, 1, none⟩ = some (.int .i64 a1_1)) (ds := []) #[false, false, false, false, false, false, false, false, false, false, false, false] (by kernel_rfl) rfl rfl ⟨cw0 BK463, cw1 BK463, cw0 BK464, cw1 BK464⟩ (fun hHeld => ?_); refine with_tabW laws_FnExactSpotRound.tab1 laws_FnExactSpotRound.bits1 (fun HT_ HW_ => ?_)
  generalize w34.drew = w35 at BK463 BK464 HB hHeld ⊢
  refine pU 4 18 #[false, false, false, false, true, false, false, false, false, false, false, false] HT_ ?_
  refine pU 5 19 #[false, false, false, false, true, true, false, false, false, false, false, false] HT_ ?_
  refine take_ (i := 0) (N := some 14) (v := ?_) (a' := ?_) #[true, false, false, false, true, true, false, false, false, false, false, false] rfl rfl (take_ofW HT_.out HW_.out (by kernel_rfl)) (fun _ _ _ h => h) (Or.inl ⟨by rfl, ?_⟩) hHeld ?_ ?_
  rotate_left
  ·rintro w' ⟨s0, s1, s2, s3⟩
   go_simp
   with_reducible rfl
  rotate_left
  ·simp only [Act.put, List.setIfInBounds_toArray, List.set_cons_zero, List.set_cons_succ, i64_w, i32_w]
   rfl
  refine take_ (i := 2) (N := some 16) (v := ?_) (a' := ?_) #[true, false, true, false, true, true, false, false, false, false, false, false] rfl rfl (take_ofW HT_.out HW_.out (by kernel_rfl)) (fun _ _ _ h => h) (Or.inl ⟨by rfl, ?_⟩) hHeld ?_ ?_
  rotate_left
  ·rintro w' ⟨s0, s1, s2, s3⟩
   go_simp
   with_reducible rfl
  rotate_left
  ·simp only [Act.put, List.setIfInBounds_toArray, List.set_cons_zero, List.set_cons_succ, i64_w, i32_w]
   rfl
  refine oN 1 15 #[true, true, true, false, true, true, false, false, false, false, false, false] HT_ (fun K hK => ?_)
  refine gS Try.func28 #[.agg #[.int .i64 a0_0, .int .i64 a0_1]] ?_
  with_reducible refine (laws_toSpot.calls a0_0 a0_1 t465 t466 _ A5.out).mono ?_
  rintro e w36 ⟨rfl, hb⟩
  refine ⟨_, rfl, ?_⟩
  replace BK463 := bb (bk BK463) hb
  replace BK464 := bb (bk BK464) hb
  replace HB := hbb (hs_ HB) hb
  clear hb
  refine hK.out _ _ ⟨cw0 BK463, cw1 BK463, cw0 BK464, cw1 BK464⟩ (fun hHeld => ?_)
  clear hK K
  refine nP ?_
  refine oN 3 17 #[true, true, true, true, true, true, false, false, false, false, false, false] HT_ (fun K hK => ?_)
  refine gS Try.func28 #[.agg #[.int .i64 a1_0, .int .i64 a1_1]] ?_
  with_reducible refine (laws_toSpot.calls a1_0 a1_1 t467 t468 _ A6.out).mono ?_
  rintro e w37 ⟨rfl, hb⟩
  refine ⟨_, rfl, ?_⟩
  replace BK463 := bb (bk BK463) hb
  replace BK464 := bb (bk BK464) hb
  replace HB := hbb (hs_ HB) hb
  clear hb
  refine hK.out _ _ ⟨cw0 BK463, cw1 BK463, cw0 BK464, cw1 BK464⟩ (fun hHeld => ?_)
  clear hK K
  refine nP ?_
  refine oN 6 20 #[true, true, true, true, true, true, true, false, false, false, false, false] HT_ (fun K hK => ?_)
  refine gS Try.func37 #[.agg #[.int .i64 t465, .int .i64 t466], .agg #[.int .i64 t467, .int .i64 t468], .int .i64 a2, .int .i64 a3] ?_
  with_reducible refine (spec_SpotRound.calls k t465 t466 t467 t468 a2 a3 t469 t470 _ A7.out).mono ?_
  rintro e w38 ⟨rfl, hb⟩
  refine ⟨_, rfl, ?_⟩
  replace BK463 := bb (bk BK463) hb
  replace BK464 := bb (bk BK464) hb
  replace HB := hbb (hs_ HB) hb
  clear hb
  refine hK.out _ _ ⟨cw0 BK463, cw1 BK463, cw0 BK464, cw1 BK464⟩ (fun hHeld => ?_)
  clear hK K
  refine nP ?_
  refine pU 7 13 #[true, true, true, true, true, true, true, true, false, false, false, false] HT_ ?_
  refine pU 8 21 #[true, true, true, true, true, true, true, true, true, false, false, false] HT_ ?_
  refine pU 9 22 #[true, true, true, true, true, true, true, true, true, true, false, false] HT_ ?_
  refine pU 10 9 #[true, true, true, true, true, true, true, true, true, true, true, false] HT_ ?_
  refine pU 11 10 #[true, true, true, true, true, true, true, true, true, true, true, true] HT_ ?_
  refine done_ (done_of HT_.out (by kernel_rfl)) ?_
  try go_wp2
  replace BK463 := Aside0.mk (blk_drew BK463.out)
  replace BK464 := Aside0.mk (blk_drew BK464.out)
  replace HB := Aside0.mk (below_drew1 HB.out)
  refine start_ (n := 12) (S := fun w' => w'.cell? ⟨gb463, 0, none⟩ = some (.int .i64 a0_0) ∧ w'.cell? ⟨gb463, 1, none⟩ = some (.int .i64 a0_1) ∧ w'.cell? ⟨gb464, 0, none⟩ = some (.int .i64 a1_0) ∧ w'.cell? ⟨gb464, 1, none⟩ = some (.int .i64 a1_1)) (ds := []) #[false, false, false, false, false, false, false, false, false, false, false, false] (by kernel_rfl) rfl rfl ⟨cw0 BK463, cw1 BK463, cw0 BK464, cw1 BK464⟩ (fun hHeld => ?_); refine with_tabW laws_FnExactSpotRound.tab2 laws_FnExactSpotRound.bits2 (fun HT_ HW_ => ?_)
  generalize w38.drew = w39 at BK463 BK464 HB hHeld ⊢
  refine pU 4 28 #[false, false, false, false, true, false, false, false, false, false, false, false] HT_ ?_
  refine pU 5 29 #[false, false, false, false, true, true, false, false, false, false, false, false] HT_ ?_
  refine take_ (i := 0) (N := some 24) (v := ?_) (a' := ?_) #[true, false, false, false, true, true, false, false, false, false, false, false] rfl rfl (take_ofW HT_.out HW_.out (by kernel_rfl)) (fun _ _ _ h => h) (Or.inl ⟨by rfl, ?_⟩) hHeld ?_ ?_
  rotate_left
  ·rintro w' ⟨s0, s1, s2, s3⟩
   go_simp
   with_reducible rfl
  rotate_left
  ·simp only [Act.put, List.setIfInBounds_toArray, List.set_cons_zero, List.set_cons_succ, i64_w, i32_w]
   rfl
  refine take_ (i := 2) (N := some 26) (v := ?_) (a' := ?_) #[true, false, true, false, true, true, false, false, false, false, false, false] rfl rfl (take_ofW HT_.out HW_.out (by kernel_rfl)) (fun _ _ _ h => h) (Or.inl ⟨by rfl, ?_⟩) hHeld ?_ ?_
  rotate_left
  ·rintro w' ⟨s0, s1, s2, s3⟩
   go_simp
   with_reducible rfl
  rotate_left
  ·simp only [Act.put, List.setIfInBounds_toArray, List.set_cons_zero, List.set_cons_succ, i64_w, i32_w]
   rfl
  refine oN 1 25 #[true, true, true, false, true, true, false, false, false, false, false, false] HT_ (fun K hK => ?_)
  refine gS Try.func28 #[.agg #[.int .i64 a0_0, .int .i64 a0_1]] ?_
  with_reducible refine (laws_toSpot.calls a0_0 a0_1 t471 t472 _ A8.out).mono ?_
  rintro e w40 ⟨rfl, hb⟩
  refine ⟨_, rfl, ?_⟩
  replace BK463 := bb (bk BK463) hb
  replace BK464 := bb (bk BK464) hb
  replace HB := hbb (hs_ HB) hb
  clear hb
  refine hK.out _ _ ⟨cw0 BK463, cw1 BK463, cw0 BK464, cw1 BK464⟩ (fun hHeld => ?_)
  clear hK K
  refine nP ?_
  refine oN 3 27 #[true, true, true, true, true, true, false, false, false, false, false, false] HT_ (fun K hK => ?_)
  refine gS Try.func28 #[.agg #[.int .i64 a1_0, .int .i64 a1_1]] ?_
  with_reducible refine (laws_toSpot.calls a1_0 a1_1 t473 t474 _ A9.out).mono ?_
  rintro e w41 ⟨rfl, hb⟩
  refine ⟨_, rfl, ?_⟩
  replace BK463 := bb (bk BK463) hb
  replace BK464 := bb (bk BK464) hb
  replace HB := hbb (hs_ HB) hb
  clear hb
  refine hK.out _ _ ⟨cw0 BK463, cw1 BK463, cw0 BK464, cw1 BK464⟩ (fun hHeld => ?_)
  clear hK K
  refine nP ?_
  refine oN 6 30 #[true, true, true, true, true, true, true, false, false, false, false, false] HT_ (fun K hK => ?_)
  refine gS Try.func38 #[.agg #[.int .i64 t471, .int .i64 t472], .agg #[.int .i64 t473, .int .i64 t474], .int .i64 a2, .int .i64 a3] ?_
  with_reducible refine (impl_SpotRound.calls k t471 t472 t473 t474 a2 a3 t475 t476 _ A10.out).mono ?_
  rintro e w42 ⟨rfl, hb⟩
  refine ⟨_, rfl, ?_⟩
  replace BK463 := bb (bk BK463) hb
  replace BK464 := bb (bk BK464) hb
  replace HB := hbb (hs_ HB) hb
  clear hb
  refine hK.out _ _ ⟨cw0 BK463, cw1 BK463, cw0 BK464, cw1 BK464⟩ (fun hHeld => ?_)
  clear hK K
  refine nP ?_
  refine pU 7 23 #[true, true, true, true, true, true, true, true, false, false, false, false] HT_ ?_
  refine pU 8 31 #[true, true, true, true, true, true, true, true, true, false, false, false] HT_ ?_
  refine pU 9 32 #[true, true, true, true, true, true, true, true, true, true, false, false] HT_ ?_
  refine pU 10 11 #[true, true, true, true, true, true, true, true, true, true, true, false] HT_ ?_
  refine pU 11 12 #[true, true, true, true, true, true, true, true, true, true, true, true] HT_ ?_
  refine done_ (done_of HT_.out (by kernel_rfl)) ?_
  try go_wp2
  go_ret
  exact ⟨by first | rfl | (simp [errW_none, errW_some] <;> rfl) | (simp [*, errW_none, errW_some] <;> rfl), hs_ HB⟩


theorem FnExactSpotRound_true (a b c d e f : Int) (w : World) (_ : (Lit.int .i64 a).wf = true) (_ : (Lit.int .i64 b).wf = true) (_ : (Lit.int .i64 c).wf = true) (_ : (Lit.int .i64 d).wf = true) (_ : (Lit.int .i64 e).wf = true) (_ : (Lit.int .i64 f).wf = true) :
  Calls Try.prog 14 #[.agg #[.int .i64 a, .int .i64 b], .agg #[.int .i64 c, .int .i64 d], .int .i64 e, .int .i64 f] w fun e w' => e = .returned (.bool true) ∧ Below w.heap.size w w' := by
 refine laws_FnExactSpotRound.calls 300 a b c d e f true w ?_
 unfold laws_FnExactSpotRound.f laws_toSpot.f
 simp only [Option.bind_some]
 rw [(SpotRound_is a b c d e f (by omega)).1, (SpotRound_is a b c d e f (by omega)).2]
 simp only [Option.bind_some, if_true, bne_self_eq_false, Bool.false_eq_true, if_false]

end Go.Proofs.Ytmcippkpgmehdaa.M
