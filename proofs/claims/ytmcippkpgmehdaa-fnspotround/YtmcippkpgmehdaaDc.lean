import Derived.Test.YtmcippkpgmehdaaM0
import Derived.Test.YtmcippkpgmehdaaDa
import Derived.Test.YtmcippkpgmehdaaDb
import Derived.Test.YtmcippkpgmehdaaNg
namespace Go.Proofs.Ytmcippkpgmehdaa.M
open Go.RowKit Go.Proofs.YtmcippkpgmehdaaW.PrintWords Go.Proofs.YtmcippkpgmehdaaW.PrintLast Go.Proofs.YtmcippkpgmehdaaW.PrintMore
attribute [local go_sem] max2_int min2_int max_two min_two max_three min_three max_four min_four
attribute [local go_sem high] eqA42 eqA29 eqA24
attribute [local go_sem] fld42_0 fld42_1 fld29_0 fld29_1 fld24_0 fld24_1 fld38_0 fld38_1 fld88_0 fld88_1 fld88_2 fld88_3 fld88_4
set_option linter.unusedVariables false
set_option linter.unusedSimpArgs false

/-! ### spec_l71Spots: function 52 -/
def spec_l71Spots.f (k : Nat) (s0_0 : List Int) (s0_1 : Int) : Option (Int × Int × Int × Int × Int) := (spec_l71Spot.f k s0_0 s0_1).bind fun bt300 => ((spec_l71Spot.f k s0_0 bt300.2.2).bind fun bt304 => ((spec_l6Rd_pick.f k s0_0 bt304.2.2 8).bind fun bt308 => (if bt308.1 = 0 then (some (bt300.1, bt300.2.1, bt300.1, bt300.2.1, bt308.2)) else (if bt308.1 = 1 then (some (bt300.1, bt300.2.1, bt304.1, bt300.2.1, bt308.2)) else (if bt308.1 = 2 then ((spec_SpotFar.f bt300.1 bt300.2.1).bind fun bt310 => (if bt310.2.2 = true then (some (bt300.1, bt300.2.1, bt310.1, bt310.2.1, bt308.2)) else (some (bt300.1, bt300.2.1, bt304.1, bt304.2.1, bt308.2)))) else (if bt308.1 = 3 then ((spec_l6Rd_pick.f k s0_0 bt308.2 129600000).bind fun bt314 => (some (bt300.1, bt300.2.1, bt300.1, bt314.1, bt314.2))) else (some (bt300.1, bt300.2.1, bt304.1, bt304.2.1, bt308.2))))))))
set_option maxHeartbeats 8000000 in
set_option maxRecDepth 100000 in
theorem spec_l71Spots.calls (k : Nat) (g : Nat) (s0_0 : List Int) (s0_1 : Int) (r1 : Int) (r2 : Int) (r3 : Int) (r4 : Int) (r5 : Int) (w0 w : World) (hI : IsS80 w0 w g s0_0 s0_1) (hB : Below w0.heap.size w0 w) (h : spec_l71Spots.f k s0_0 s0_1 = some (r1, r2, r3, r4, r5)) :
  Calls Try.prog 52 #[.pointer (some ⟨g, 0, none⟩)] w fun e w' => e = .returned (.tuple #[.agg #[.int .i64 r1, .int .i64 r2], .agg #[.int .i64 r3, .int .i64 r4]]) ∧ IsS80 w0 w' g s0_0 r5 ∧ Below w0.heap.size w0 w' ∧ KeepBut w w' g none := by
 have hu24 := Try.underlying24
 have HI0 := Aside0.mk hI
 have HK := Aside0.mk (KeepBut.refl w g none)
 have HL := Aside0.mk hB.size
 clear hI
 have HW0 := Aside0.mk hB.size
 have HB := Aside0.mk hB
 clear hB
 have H : ((spec_l71Spot.f k s0_0 s0_1).bind fun bt300 => ((spec_l71Spot.f k s0_0 bt300.2.2).bind fun bt304 => ((spec_l6Rd_pick.f k s0_0 bt304.2.2 8).bind fun bt308 => (if bt308.1 = 0 then (some (bt300.1, bt300.2.1, bt300.1, bt300.2.1, bt308.2)) else (if bt308.1 = 1 then (some (bt300.1, bt300.2.1, bt304.1, bt300.2.1, bt308.2)) else (if bt308.1 = 2 then ((spec_SpotFar.f bt300.1 bt300.2.1).bind fun bt310 => (if bt310.2.2 = true then (some (bt300.1, bt300.2.1, bt310.1, bt310.2.1, bt308.2)) else (some (bt300.1, bt300.2.1, bt304.1, bt304.2.1, bt308.2)))) else (if bt308.1 = 3 then ((spec_l6Rd_pick.f k s0_0 bt308.2 129600000).bind fun bt314 => (some (bt300.1, bt300.2.1, bt300.1, bt314.1, bt314.2))) else (some (bt300.1, bt300.2.1, bt304.1, bt304.2.1, bt308.2))))))))) = some (r1, r2, r3, r4, r5) := h
 clear h
 replace H := Option.bind_eq_some_iff.mp H
 obtain ⟨⟨t300, t301, t302⟩, A20, H⟩ := H
 try dsimp only at H
 have A2 := Aside0.mk A20
 clear A20
 replace H := Option.bind_eq_some_iff.mp H
 obtain ⟨⟨t304, t305, t306⟩, A30, H⟩ := H
 try dsimp only at H
 have A3 := Aside0.mk A30
 clear A30
 replace H := Option.bind_eq_some_iff.mp H
 obtain ⟨⟨t308, t309⟩, A40, H⟩ := H
 try dsimp only at H
 have A4 := Aside0.mk A40
 clear A40
 by_cases c5 : t308 = 0
 ·rw [if_pos c5] at H
  have c5b0 : (t308 == 0) = true := beq_iff_eq.mpr c5
  have c5b1 : (t308 != 0) = false := bne_eq_false_iff_eq.mpr c5
  clear c5
  simp only [Option.some.injEq, Prod.mk.injEq] at H
  obtain ⟨rfl, rfl, rfl, rfl, rfl⟩ := H
  go_enter Try.func52, Try.ntmps52
  try go_wp2_with (first | ((with_reducible refine gate_dst (N := 2) rfl ?_); refine bE 2 #[.int .i64 0, .int .i64 0] 24 ?_; intro gb298 hg w6 hbox hb; have BK298 := Aside0.mk (hbox); have GW298 := ks hg (hzk HK); have GE298 := kw HW0 hg (hzk HK); have NB0_298 := nL hg (IsS80.lt (show IsS80 w0 _ g s0_0 s0_1 from IsS80.go_ HI0)); have NB298_0 := nG hg (IsS80.lt (show IsS80 w0 _ g s0_0 s0_1 from IsS80.go_ HI0)); replace HI0 := Aside0.mk (IsS80.below (IsS80.go_ HI0) hb); replace HK := Aside0.mk (KeepBut.trans (hzk HK) (KeepBut.of_below hb g none) (.inl rfl)); replace HB := hbb (hzI HB) hb; clear hb hbox hg) | ((with_reducible refine gate_dst (N := 3) rfl ?_); refine bE 3 #[.int .i64 0, .int .i64 0] 24 ?_; intro gb299 hg w7 hbox hb; have BK299 := Aside0.mk (hbox); have GW299 := ks hg (hzk HK); have GE299 := kw HW0 hg (hzk HK); have NB298_299 := nl hg (bk BK298); have NB299_298 := ng hg (bk BK298); have NB0_299 := nL hg (IsS80.lt (show IsS80 w0 _ g s0_0 s0_1 from IsS80.go_ HI0)); have NB299_0 := nG hg (IsS80.lt (show IsS80 w0 _ g s0_0 s0_1 from IsS80.go_ HI0)); replace HI0 := Aside0.mk (IsS80.below (IsS80.go_ HI0) hb); replace BK298 := bb (bk BK298) hb; replace HK := Aside0.mk (KeepBut.trans (hzk HK) (KeepBut.of_below hb g none) (.inl rfl)); replace HB := hbb (hzI HB) hb; clear hb hbox hg) | ((with_reducible refine gate_callee (f := 42) rfl ?_); refine gL 9 Try.func42 #[.pointer (some ⟨g, 0, none⟩)] ?_; (with_reducible refine (spec_l71Spot.calls k g s0_0 s0_1 t300 t301 t302 w0 _ ?side1 ?side2 A2.out).mono ?_); (case side1 => exact IsS80.go_ HI0); (case side2 => exact hzI HB); rintro e w8 ⟨rfl, hi, hb, hk⟩; refine ⟨_, rfl, ?_⟩; replace BK298 := kb hk (bk BK298) NB298_0; replace BK299 := kb hk (bk BK299) NB299_0; replace HK := Aside0.mk (KeepBut.trans (hzk HK) hk (.inl rfl)); replace HB := Aside0.mk (hb); replace HI0 := Aside0.mk (hi); clear hi hb hk) | ((with_reducible refine gate_dst (N := 4) rfl ?_); refine bE 4 #[.int .i64 0, .int .i64 0] 24 ?_; intro gb303 hg w9 hbox hb; have BK303 := Aside0.mk (hbox); have GW303 := ks hg (hzk HK); have GE303 := kw HW0 hg (hzk HK); have NB298_303 := nl hg (bk BK298); have NB303_298 := ng hg (bk BK298); have NB299_303 := nl hg (bk BK299); have NB303_299 := ng hg (bk BK299); have NB0_303 := nL hg (IsS80.lt (show IsS80 w0 _ g s0_0 t302 from IsS80.go_ HI0)); have NB303_0 := nG hg (IsS80.lt (show IsS80 w0 _ g s0_0 t302 from IsS80.go_ HI0)); replace HI0 := Aside0.mk (IsS80.below (IsS80.go_ HI0) hb); replace BK298 := bb (bk BK298) hb; replace BK299 := bb (bk BK299) hb; replace HK := Aside0.mk (KeepBut.trans (hzk HK) (KeepBut.of_below hb g none) (.inl rfl)); replace HB := hbb (hzI HB) hb; clear hb hbox hg; have hnb10 := NB303_298.out; have hnc10 := NB298_303.out; have hnb11 := NB303_299.out; have hnc11 := NB299_303.out; have hnb12 := NB303_0.out; have hnc12 := NB0_303.out; obtain ⟨hcz13_0, hcz13_1, hfz13_0, hfz13_1⟩ := cz2 BK303) | ((with_reducible refine gate_callee (f := 42) rfl ?_); refine gL 11 Try.func42 #[.pointer (some ⟨g, 0, none⟩)] ?_; (with_reducible refine (spec_l71Spot.calls k g s0_0 t302 t304 t305 t306 w0 _ ?side1 ?side2 A3.out).mono ?_); (case side1 => exact IsS80.go_ HI0); (case side2 => exact hzI HB); rintro e w14 ⟨rfl, hi, hb, hk⟩; refine ⟨_, rfl, ?_⟩; replace BK298 := kb hk (bk1 BK298 NB298_303) NB298_0; replace BK299 := kb hk (bk1 BK299 NB299_303) NB299_0; replace BK303 := kb (o := .cells #[.int .i64 t300, .int .i64 t301] 24 (0, 0)) hk (bkp BK303) NB303_0; replace HK := Aside0.mk (KeepBut.trans (hzk HK) hk (.inl rfl)); replace HB := Aside0.mk (hb); replace HI0 := Aside0.mk (hi); clear hi hb hk) | ((with_reducible refine gate_dst (N := 5) rfl ?_); refine bE 5 #[.int .i64 0, .int .i64 0] 24 ?_; intro gb307 hg w15 hbox hb; have BK307 := Aside0.mk (hbox); have GW307 := ks hg (hzk HK); have GE307 := kw HW0 hg (hzk HK); have NB298_307 := nl hg (bk BK298); have NB307_298 := ng hg (bk BK298); have NB299_307 := nl hg (bk BK299); have NB307_299 := ng hg (bk BK299); have NB303_307 := nl hg (bk BK303); have NB307_303 := ng hg (bk BK303); have NB0_307 := nL hg (IsS80.lt (show IsS80 w0 _ g s0_0 t306 from IsS80.go_ HI0)); have NB307_0 := nG hg (IsS80.lt (show IsS80 w0 _ g s0_0 t306 from IsS80.go_ HI0)); replace HI0 := Aside0.mk (IsS80.below (IsS80.go_ HI0) hb); replace BK298 := bb (bk BK298) hb; replace BK299 := bb (bk BK299) hb; replace BK303 := bb (bk BK303) hb; replace HK := Aside0.mk (KeepBut.trans (hzk HK) (KeepBut.of_below hb g none) (.inl rfl)); replace HB := hbb (hzI HB) hb; clear hb hbox hg; have hnb16 := NB307_298.out; have hnc16 := NB298_307.out; have hnb17 := NB307_299.out; have hnc17 := NB299_307.out; have hnb18 := NB307_303.out; have hnc18 := NB303_307.out; have hnb19 := NB307_0.out; have hnc19 := NB0_307.out; obtain ⟨hcz20_0, hcz20_1, hfz20_0, hfz20_1⟩ := cz2 BK307) | ((with_reducible refine gate_callee (f := 53) rfl ?_); refine gL 13 Try.func53 #[.pointer (some ⟨g, 0, none⟩), .int .i64 8] ?_; (with_reducible refine (spec_l6Rd_pick.calls k g s0_0 t306 8 t308 t309 w0 _ ?side1 ?side2 A4.out).mono ?_); (case side1 => exact IsS80.go_ HI0); (case side2 => exact hzI HB); rintro e w21 ⟨rfl, hi, hb, hk⟩; refine ⟨_, rfl, ?_⟩; replace BK298 := kb hk (bk1 BK298 NB298_307) NB298_0; replace BK299 := kb hk (bk1 BK299 NB299_307) NB299_0; replace BK303 := kb hk (bk1 BK303 NB303_307) NB303_0; replace BK307 := kb (o := .cells #[.int .i64 t304, .int .i64 t305] 24 (0, 0)) hk (bkp BK307) NB307_0; replace HK := Aside0.mk (KeepBut.trans (hzk HK) hk (.inl rfl)); replace HB := Aside0.mk (hb); replace HI0 := Aside0.mk (hi); clear hi hb hk; obtain ⟨hcz22_0, hcz22_1, hfz22_0, hfz22_1⟩ := cz2 BK303; obtain ⟨hcz23_0, hcz23_1, hfz23_0, hfz23_1⟩ := cz2 BK307))
  have n0_ : Aside0 (((w21.setCell ⟨gb307, 0, none⟩ (.int .i64 t300)).setCell ⟨gb307, 1, none⟩ (.int .i64 t301)).heap[gb298]? = some (.cells #[.int .i64 0, .int .i64 0] 24 (0, 0))) := ⟨bk1 BK298 NB298_307⟩
  have n1_ : Aside0 (((w21.setCell ⟨gb307, 0, none⟩ (.int .i64 t300)).setCell ⟨gb307, 1, none⟩ (.int .i64 t301)).heap[gb299]? = some (.cells #[.int .i64 0, .int .i64 0] 24 (0, 0))) := ⟨bk1 BK299 NB299_307⟩
  have n2_ : Aside0 (((w21.setCell ⟨gb307, 0, none⟩ (.int .i64 t300)).setCell ⟨gb307, 1, none⟩ (.int .i64 t301)).heap[gb303]? = some (.cells #[.int .i64 t300, .int .i64 t301] 24 (0, 0))) := ⟨bk1 BK303 NB303_307⟩
  have n3_ : Aside0 (((w21.setCell ⟨gb307, 0, none⟩ (.int .i64 t300)).setCell ⟨gb307, 1, none⟩ (.int .i64 t301)).heap[gb307]? = some (.cells #[.int .i64 t300, .int .i64 t301] 24 (0, 0))) := ⟨bkp BK307⟩
  have n4_ : Aside0 (IsS80 w0 ((w21.setCell ⟨gb307, 0, none⟩ (.int .i64 t300)).setCell ⟨gb307, 1, none⟩ (.int .i64 t301)) g s0_0 t309) := ⟨IsS80.go_ HI0⟩
  have n5_ : Aside0 (KeepBut w ((w21.setCell ⟨gb307, 0, none⟩ (.int .i64 t300)).setCell ⟨gb307, 1, none⟩ (.int .i64 t301)) g none) := ⟨hzk HK⟩
  have n6_ : Aside0 (Below w0.heap.size w0 ((w21.setCell ⟨gb307, 0, none⟩ (.int .i64 t300)).setCell ⟨gb307, 1, none⟩ (.int .i64 t301))) := ⟨hzI HB⟩
  (try clear BK298)
  (try clear BK299)
  (try clear BK303)
  (try clear BK307)
  (try clear HI0)
  (try clear HK)
  (try clear HB)
  generalize ((w21.setCell ⟨gb307, 0, none⟩ (.int .i64 t300)).setCell ⟨gb307, 1, none⟩ (.int .i64 t301)) = w24 at n0_ n1_ n2_ n3_ n4_ n5_ n6_ ⊢
  have BK298 := n0_
  have BK299 := n1_
  have BK303 := n2_
  have BK307 := n3_
  have HI0 := n4_
  have HK := n5_
  have HB := n6_
  clear n0_ n1_ n2_ n3_ n4_ n5_ n6_
  replace BK298 := Aside0.mk (blk_drew BK298.out)
  replace BK299 := Aside0.mk (blk_drew BK299.out)
  replace BK303 := Aside0.mk (blk_drew BK303.out)
  replace BK307 := Aside0.mk (blk_drew BK307.out)
  replace HI0 := Aside0.mk (IsS80.drew HI0.out)
  replace HK := Aside0.mk (keep_drew HK.out)
  replace HB := Aside0.mk (below_drew1 HB.out)
  refine start_ (n := 4) (S := fun w' => w'.cell? ⟨gb303, 0, none⟩ = some (.int .i64 t300) ∧ w'.cell? ⟨gb303, 1, none⟩ = some (.int .i64 t301) ∧ w'.cell? ⟨gb307, 0, none⟩ = some (.int .i64 t300) ∧ w'.cell? ⟨gb307, 1, none⟩ = some (.int .i64 t301)) (ds := []) #[false, false, false, false] (by kernel_rfl) rfl rfl ⟨cw0 BK303, cw1 BK303, cw0 BK307, cw1 BK307⟩ (fun hHeld => ?_)
  generalize w24.drew = w25 at BK298 BK299 BK303 BK307 HI0 HK HB hHeld ⊢
  refine take_ (i := 0) (N := some 39) (v := ?_) (a' := ?_) #[true, false, false, false] rfl rfl (by kernel_rfl) (fun _ _ _ h => h) (Or.inl ⟨by rfl, ?_⟩) hHeld ?_ ?_
  rotate_left
  ·rintro w' ⟨s0, s1, s2, s3⟩
   go_simp
   with_reducible rfl
  rotate_left
  ·simp only [Act.put, List.setIfInBounds_toArray, List.set_cons_zero, List.set_cons_succ, i64_w, i32_w]
   rfl
  refine take_ (i := 1) (N := some 40) (v := ?_) (a' := ?_) #[true, true, false, false] rfl rfl (by kernel_rfl) (fun _ _ _ h => h) (Or.inl ⟨by rfl, ?_⟩) hHeld ?_ ?_
  rotate_left
  ·rintro w' ⟨s0, s1, s2, s3⟩
   go_simp
   with_reducible rfl
  rotate_left
  ·simp only [Act.put, List.setIfInBounds_toArray, List.set_cons_zero, List.set_cons_succ, i64_w, i32_w]
   rfl
  refine one_ (i := 2) (N := none) #[true, true, true, false] rfl rfl (by kernel_rfl) (by decide) (fun K hK => ?_)
  have hs26 : w25.cell? ⟨gb298, 0, none⟩ = some (.int .i64 0) := (blk_cell BK298.out 0).trans rfl
  have hfs26 := blk_frozen BK298.out 0
  have hns26_1 := NB299_298.out
  have hns26_2 := NB303_298.out
  have hns26_3 := NB307_298.out
  have hms26_1 := NB298_299.out
  have hms26_2 := NB298_303.out
  have hms26_3 := NB298_307.out
  have hs27 : w25.cell? ⟨gb298, 1, none⟩ = some (.int .i64 0) := (blk_cell BK298.out 1).trans rfl
  have hfs27 := blk_frozen BK298.out 1
  have hns27_1 := NB299_298.out
  have hns27_2 := NB303_298.out
  have hns27_3 := NB307_298.out
  have hms27_1 := NB298_299.out
  have hms27_2 := NB298_303.out
  have hms27_3 := NB298_307.out
  refine skip_ (w1 := ?_) (by rfl) rfl ?_ ?_
  rotate_left
  ·go_simp
   rfl
  refine hK.out _ _ ⟨((cell_far (p := ⟨gb298, _, none⟩) NB303_298.out _).trans (((cell_far (p := ⟨gb298, _, none⟩) NB303_298.out _).trans (hHeld.1)))), ((cell_far (p := ⟨gb298, _, none⟩) NB303_298.out _).trans (((cell_far (p := ⟨gb298, _, none⟩) NB303_298.out _).trans (hHeld.2.1)))), ((cell_far (p := ⟨gb298, _, none⟩) NB307_298.out _).trans (((cell_far (p := ⟨gb298, _, none⟩) NB307_298.out _).trans (hHeld.2.2.1)))), ((cell_far (p := ⟨gb298, _, none⟩) NB307_298.out _).trans (((cell_far (p := ⟨gb298, _, none⟩) NB307_298.out _).trans (hHeld.2.2.2))))⟩ (fun hHeld => ?_)
  clear hK K
  refine one_ (i := 3) (N := none) #[true, true, true, true] rfl rfl (by kernel_rfl) (by decide) (fun K hK => ?_)
  have hs28 : w25.cell? ⟨gb299, 0, none⟩ = some (.int .i64 0) := (blk_cell BK299.out 0).trans rfl
  have hfs28 := blk_frozen BK299.out 0
  have hns28_0 := NB298_299.out
  have hns28_2 := NB303_299.out
  have hns28_3 := NB307_299.out
  have hms28_0 := NB299_298.out
  have hms28_2 := NB299_303.out
  have hms28_3 := NB299_307.out
  have hs29 : w25.cell? ⟨gb299, 1, none⟩ = some (.int .i64 0) := (blk_cell BK299.out 1).trans rfl
  have hfs29 := blk_frozen BK299.out 1
  have hns29_0 := NB298_299.out
  have hns29_2 := NB303_299.out
  have hns29_3 := NB307_299.out
  have hms29_0 := NB299_298.out
  have hms29_2 := NB299_303.out
  have hms29_3 := NB299_307.out
  refine skip_ (w1 := ?_) (by rfl) rfl ?_ ?_
  rotate_left
  ·go_simp
   rfl
  refine hK.out _ _ ⟨((cell_far (p := ⟨gb299, _, none⟩) NB303_299.out _).trans (((cell_far (p := ⟨gb299, _, none⟩) NB303_299.out _).trans (hHeld.1)))), ((cell_far (p := ⟨gb299, _, none⟩) NB303_299.out _).trans (((cell_far (p := ⟨gb299, _, none⟩) NB303_299.out _).trans (hHeld.2.1)))), ((cell_far (p := ⟨gb299, _, none⟩) NB307_299.out _).trans (((cell_far (p := ⟨gb299, _, none⟩) NB307_299.out _).trans (hHeld.2.2.1)))), ((cell_far (p := ⟨gb299, _, none⟩) NB307_299.out _).trans (((cell_far (p := ⟨gb299, _, none⟩) NB307_299.out _).trans (hHeld.2.2.2))))⟩ (fun hHeld => ?_)
  clear hK K
  refine done_ (by kernel_rfl) ?_
  try go_wp2
  refine bodyPost_ret (results_cc rfl _ _ gb298 gb299 24 24 #[.int .i64 t300, .int .i64 t301] #[.int .i64 t300, .int .i64 t301] (0, 0) (0, 0) _ _ rfl (bkp BK298) Try.underlying24 rfl (by kernel_rfl) rfl (bkp BK299) Try.underlying24 rfl (by kernel_rfl)) rfl ?_
  exact ⟨by first | rfl | (simp [errW_none, errW_some] <;> rfl) | (simp [*, errW_none, errW_some] <;> rfl), IsS80.go_ HI0, hzI HB, hzk HK⟩
 ·rw [if_neg c5] at H
  have c5b0 : (t308 == 0) = false := beq_eq_false_iff_ne.mpr c5
  have c5b1 : (t308 != 0) = true := bne_iff_ne.mpr c5
  by_cases c30 : t308 = 1
  ·rw [if_pos c30] at H
   have c30b0 : (t308 == 1) = true := beq_iff_eq.mpr c30
   have c30b1 : (t308 != 1) = false := bne_eq_false_iff_eq.mpr c30
   clear c30
   simp only [Option.some.injEq, Prod.mk.injEq] at H
   obtain ⟨rfl, rfl, rfl, rfl, rfl⟩ := H
   go_enter Try.func52, Try.ntmps52
   try go_wp2_with (first | ((with_reducible refine gate_dst (N := 2) rfl ?_); refine bE 2 #[.int .i64 0, .int .i64 0] 24 ?_; intro gb298 hg w31 hbox hb; have BK298 := Aside0.mk (hbox); have GW298 := ks hg (hzk HK); have GE298 := kw HW0 hg (hzk HK); have NB0_298 := nL hg (IsS80.lt (show IsS80 w0 _ g s0_0 s0_1 from IsS80.go_ HI0)); have NB298_0 := nG hg (IsS80.lt (show IsS80 w0 _ g s0_0 s0_1 from IsS80.go_ HI0)); replace HI0 := Aside0.mk (IsS80.below (IsS80.go_ HI0) hb); replace HK := Aside0.mk (KeepBut.trans (hzk HK) (KeepBut.of_below hb g none) (.inl rfl)); replace HB := hbb (hzI HB) hb; clear hb hbox hg) | ((with_reducible refine gate_dst (N := 3) rfl ?_); refine bE 3 #[.int .i64 0, .int .i64 0] 24 ?_; intro gb299 hg w32 hbox hb; have BK299 := Aside0.mk (hbox); have GW299 := ks hg (hzk HK); have GE299 := kw HW0 hg (hzk HK); have NB298_299 := nl hg (bk BK298); have NB299_298 := ng hg (bk BK298); have NB0_299 := nL hg (IsS80.lt (show IsS80 w0 _ g s0_0 s0_1 from IsS80.go_ HI0)); have NB299_0 := nG hg (IsS80.lt (show IsS80 w0 _ g s0_0 s0_1 from IsS80.go_ HI0)); replace HI0 := Aside0.mk (IsS80.below (IsS80.go_ HI0) hb); replace BK298 := bb (bk BK298) hb; replace HK := Aside0.mk (KeepBut.trans (hzk HK) (KeepBut.of_below hb g none) (.inl rfl)); replace HB := hbb (hzI HB) hb; clear hb hbox hg) | ((with_reducible refine gate_callee (f := 42) rfl ?_); refine gL 9 Try.func42 #[.pointer (some ⟨g, 0, none⟩)] ?_; (with_reducible refine (spec_l71Spot.calls k g s0_0 s0_1 t300 t301 t302 w0 _ ?side1 ?side2 A2.out).mono ?_); (case side1 => exact IsS80.go_ HI0); (case side2 => exact hzI HB); rintro e w33 ⟨rfl, hi, hb, hk⟩; refine ⟨_, rfl, ?_⟩; replace BK298 := kb hk (bk BK298) NB298_0; replace BK299 := kb hk (bk BK299) NB299_0; replace HK := Aside0.mk (KeepBut.trans (hzk HK) hk (.inl rfl)); replace HB := Aside0.mk (hb); replace HI0 := Aside0.mk (hi); clear hi hb hk) | ((with_reducible refine gate_dst (N := 4) rfl ?_); refine bE 4 #[.int .i64 0, .int .i64 0] 24 ?_; intro gb303 hg w34 hbox hb; have BK303 := Aside0.mk (hbox); have GW303 := ks hg (hzk HK); have GE303 := kw HW0 hg (hzk HK); have NB298_303 := nl hg (bk BK298); have NB303_298 := ng hg (bk BK298); have NB299_303 := nl hg (bk BK299); have NB303_299 := ng hg (bk BK299); have NB0_303 := nL hg (IsS80.lt (show IsS80 w0 _ g s0_0 t302 from IsS80.go_ HI0)); have NB303_0 := nG hg (IsS80.lt (show IsS80 w0 _ g s0_0 t302 from IsS80.go_ HI0)); replace HI0 := Aside0.mk (IsS80.below (IsS80.go_ HI0) hb); replace BK298 := bb (bk BK298) hb; replace BK299 := bb (bk BK299) hb; replace HK := Aside0.mk (KeepBut.trans (hzk HK) (KeepBut.of_below hb g none) (.inl rfl)); replace HB := hbb (hzI HB) hb; clear hb hbox hg; have hnb35 := NB303_298.out; have hnc35 := NB298_303.out; have hnb36 := NB303_299.out; have hnc36 := NB299_303.out; have hnb37 := NB303_0.out; have hnc37 := NB0_303.out; obtain ⟨hcz38_0, hcz38_1, hfz38_0, hfz38_1⟩ := cz2 BK303) | ((with_reducible refine gate_callee (f := 42) rfl ?_); refine gL 11 Try.func42 #[.pointer (some ⟨g, 0, none⟩)] ?_; (with_reducible refine (spec_l71Spot.calls k g s0_0 t302 t304 t305 t306 w0 _ ?side1 ?side2 A3.out).mono ?_); (case side1 => exact IsS80.go_ HI0); (case side2 => exact hzI HB); rintro e w39 ⟨rfl, hi, hb, hk⟩; refine ⟨_, rfl, ?_⟩; replace BK298 := kb hk (bk1 BK298 NB298_303) NB298_0; replace BK299 := kb hk (bk1 BK299 NB299_303) NB299_0; replace BK303 := kb (o := .cells #[.int .i64 t300, .int .i64 t301] 24 (0, 0)) hk (bkp BK303) NB303_0; replace HK := Aside0.mk (KeepBut.trans (hzk HK) hk (.inl rfl)); replace HB := Aside0.mk (hb); replace HI0 := Aside0.mk (hi); clear hi hb hk) | ((with_reducible refine gate_dst (N := 5) rfl ?_); refine bE 5 #[.int .i64 0, .int .i64 0] 24 ?_; intro gb307 hg w40 hbox hb; have BK307 := Aside0.mk (hbox); have GW307 := ks hg (hzk HK); have GE307 := kw HW0 hg (hzk HK); have NB298_307 := nl hg (bk BK298); have NB307_298 := ng hg (bk BK298); have NB299_307 := nl hg (bk BK299); have NB307_299 := ng hg (bk BK299); have NB303_307 := nl hg (bk BK303); have NB307_303 := ng hg (bk BK303); have NB0_307 := nL hg (IsS80.lt (show IsS80 w0 _ g s0_0 t306 from IsS80.go_ HI0)); have NB307_0 := nG hg (IsS80.lt (show IsS80 w0 _ g s0_0 t306 from IsS80.go_ HI0)); replace HI0 := Aside0.mk (IsS80.below (IsS80.go_ HI0) hb); replace BK298 := bb (bk BK298) hb; replace BK299 := bb (bk BK299) hb; replace BK303 := bb (bk BK303) hb; replace HK := Aside0.mk (KeepBut.trans (hzk HK) (KeepBut.of_below hb g none) (.inl rfl)); replace HB := hbb (hzI HB) hb; clear hb hbox hg; have hnb41 := NB307_298.out; have hnc41 := NB298_307.out; have hnb42 := NB307_299.out; have hnc42 := NB299_307.out; have hnb43 := NB307_303.out; have hnc43 := NB303_307.out; have hnb44 := NB307_0.out; have hnc44 := NB0_307.out; obtain ⟨hcz45_0, hcz45_1, hfz45_0, hfz45_1⟩ := cz2 BK307) | ((with_reducible refine gate_callee (f := 53) rfl ?_); refine gL 13 Try.func53 #[.pointer (some ⟨g, 0, none⟩), .int .i64 8] ?_; (with_reducible refine (spec_l6Rd_pick.calls k g s0_0 t306 8 t308 t309 w0 _ ?side1 ?side2 A4.out).mono ?_); (case side1 => exact IsS80.go_ HI0); (case side2 => exact hzI HB); rintro e w46 ⟨rfl, hi, hb, hk⟩; refine ⟨_, rfl, ?_⟩; replace BK298 := kb hk (bk1 BK298 NB298_307) NB298_0; replace BK299 := kb hk (bk1 BK299 NB299_307) NB299_0; replace BK303 := kb hk (bk1 BK303 NB303_307) NB303_0; replace BK307 := kb (o := .cells #[.int .i64 t304, .int .i64 t305] 24 (0, 0)) hk (bkp BK307) NB307_0; replace HK := Aside0.mk (KeepBut.trans (hzk HK) hk (.inl rfl)); replace HB := Aside0.mk (hb); replace HI0 := Aside0.mk (hi); clear hi hb hk; obtain ⟨hcz47_0, hcz47_1, hfz47_0, hfz47_1⟩ := cz2 BK303; obtain ⟨hcz48_0, hcz48_1, hfz48_0, hfz48_1⟩ := cz2 BK307))
   have n0_ : Aside0 ((w46.setCell ⟨gb307, 1, none⟩ (.int .i64 t301)).heap[gb298]? = some (.cells #[.int .i64 0, .int .i64 0] 24 (0, 0))) := ⟨bk1 BK298 NB298_307⟩
   have n1_ : Aside0 ((w46.setCell ⟨gb307, 1, none⟩ (.int .i64 t301)).heap[gb299]? = some (.cells #[.int .i64 0, .int .i64 0] 24 (0, 0))) := ⟨bk1 BK299 NB299_307⟩
   have n2_ : Aside0 ((w46.setCell ⟨gb307, 1, none⟩ (.int .i64 t301)).heap[gb303]? = some (.cells #[.int .i64 t300, .int .i64 t301] 24 (0, 0))) := ⟨bk1 BK303 NB303_307⟩
   have n3_ : Aside0 ((w46.setCell ⟨gb307, 1, none⟩ (.int .i64 t301)).heap[gb307]? = some (.cells #[.int .i64 t304, .int .i64 t301] 24 (0, 0))) := ⟨bkp BK307⟩
   have n4_ : Aside0 (IsS80 w0 (w46.setCell ⟨gb307, 1, none⟩ (.int .i64 t301)) g s0_0 t309) := ⟨IsS80.go_ HI0⟩
   have n5_ : Aside0 (KeepBut w (w46.setCell ⟨gb307, 1, none⟩ (.int .i64 t301)) g none) := ⟨hzk HK⟩
   have n6_ : Aside0 (Below w0.heap.size w0 (w46.setCell ⟨gb307, 1, none⟩ (.int .i64 t301))) := ⟨hzI HB⟩
   (try clear BK298)
   (try clear BK299)
   (try clear BK303)
   (try clear BK307)
   (try clear HI0)
   (try clear HK)
   (try clear HB)
   generalize (w46.setCell ⟨gb307, 1, none⟩ (.int .i64 t301)) = w49 at n0_ n1_ n2_ n3_ n4_ n5_ n6_ ⊢
   have BK298 := n0_
   have BK299 := n1_
   have BK303 := n2_
   have BK307 := n3_
   have HI0 := n4_
   have HK := n5_
   have HB := n6_
   clear n0_ n1_ n2_ n3_ n4_ n5_ n6_
   replace BK298 := Aside0.mk (blk_drew BK298.out)
   replace BK299 := Aside0.mk (blk_drew BK299.out)
   replace BK303 := Aside0.mk (blk_drew BK303.out)
   replace BK307 := Aside0.mk (blk_drew BK307.out)
   replace HI0 := Aside0.mk (IsS80.drew HI0.out)
   replace HK := Aside0.mk (keep_drew HK.out)
   replace HB := Aside0.mk (below_drew1 HB.out)
   refine start_ (n := 4) (S := fun w' => w'.cell? ⟨gb303, 0, none⟩ = some (.int .i64 t300) ∧ w'.cell? ⟨gb303, 1, none⟩ = some (.int .i64 t301) ∧ w'.cell? ⟨gb307, 0, none⟩ = some (.int .i64 t304) ∧ w'.cell? ⟨gb307, 1, none⟩ = some (.int .i64 t301)) (ds := []) #[false, false, false, false] (by kernel_rfl) rfl rfl ⟨cw0 BK303, cw1 BK303, cw0 BK307, cw1 BK307⟩ (fun hHeld => ?_)
   generalize w49.drew = w50 at BK298 BK299 BK303 BK307 HI0 HK HB hHeld ⊢
   refine take_ (i := 0) (N := some 39) (v := ?_) (a' := ?_) #[true, false, false, false] rfl rfl (by kernel_rfl) (fun _ _ _ h => h) (Or.inl ⟨by rfl, ?_⟩) hHeld ?_ ?_
   rotate_left
   ·rintro w' ⟨s0, s1, s2, s3⟩
    go_simp
    with_reducible rfl
   rotate_left
   ·simp only [Act.put, List.setIfInBounds_toArray, List.set_cons_zero, List.set_cons_succ, i64_w, i32_w]
    rfl
   refine take_ (i := 1) (N := some 40) (v := ?_) (a' := ?_) #[true, true, false, false] rfl rfl (by kernel_rfl) (fun _ _ _ h => h) (Or.inl ⟨by rfl, ?_⟩) hHeld ?_ ?_
   rotate_left
   ·rintro w' ⟨s0, s1, s2, s3⟩
    go_simp
    with_reducible rfl
   rotate_left
   ·simp only [Act.put, List.setIfInBounds_toArray, List.set_cons_zero, List.set_cons_succ, i64_w, i32_w]
    rfl
   refine one_ (i := 2) (N := none) #[true, true, true, false] rfl rfl (by kernel_rfl) (by decide) (fun K hK => ?_)
   have hs51 : w50.cell? ⟨gb298, 0, none⟩ = some (.int .i64 0) := (blk_cell BK298.out 0).trans rfl
   have hfs51 := blk_frozen BK298.out 0
   have hns51_1 := NB299_298.out
   have hns51_2 := NB303_298.out
   have hns51_3 := NB307_298.out
   have hms51_1 := NB298_299.out
   have hms51_2 := NB298_303.out
   have hms51_3 := NB298_307.out
   have hs52 : w50.cell? ⟨gb298, 1, none⟩ = some (.int .i64 0) := (blk_cell BK298.out 1).trans rfl
   have hfs52 := blk_frozen BK298.out 1
   have hns52_1 := NB299_298.out
   have hns52_2 := NB303_298.out
   have hns52_3 := NB307_298.out
   have hms52_1 := NB298_299.out
   have hms52_2 := NB298_303.out
   have hms52_3 := NB298_307.out
   refine skip_ (w1 := ?_) (by rfl) rfl ?_ ?_
   rotate_left
   ·go_simp
    rfl
   refine hK.out _ _ ⟨((cell_far (p := ⟨gb298, _, none⟩) NB303_298.out _).trans (((cell_far (p := ⟨gb298, _, none⟩) NB303_298.out _).trans (hHeld.1)))), ((cell_far (p := ⟨gb298, _, none⟩) NB303_298.out _).trans (((cell_far (p := ⟨gb298, _, none⟩) NB303_298.out _).trans (hHeld.2.1)))), ((cell_far (p := ⟨gb298, _, none⟩) NB307_298.out _).trans (((cell_far (p := ⟨gb298, _, none⟩) NB307_298.out _).trans (hHeld.2.2.1)))), ((cell_far (p := ⟨gb298, _, none⟩) NB307_298.out _).trans (((cell_far (p := ⟨gb298, _, none⟩) NB307_298.out _).trans (hHeld.2.2.2))))⟩ (fun hHeld => ?_)
   clear hK K
   refine one_ (i := 3) (N := none) #[true, true, true, true] rfl rfl (by kernel_rfl) (by decide) (fun K hK => ?_)
   have hs53 : w50.cell? ⟨gb299, 0, none⟩ = some (.int .i64 0) := (blk_cell BK299.out 0).trans rfl
   have hfs53 := blk_frozen BK299.out 0
   have hns53_0 := NB298_299.out
   have hns53_2 := NB303_299.out
   have hns53_3 := NB307_299.out
   have hms53_0 := NB299_298.out
   have hms53_2 := NB299_303.out
   have hms53_3 := NB299_307.out
   have hs54 : w50.cell? ⟨gb299, 1, none⟩ = some (.int .i64 0) := (blk_cell BK299.out 1).trans rfl
   have hfs54 := blk_frozen BK299.out 1
   have hns54_0 := NB298_299.out
   have hns54_2 := NB303_299.out
   have hns54_3 := NB307_299.out
   have hms54_0 := NB299_298.out
   have hms54_2 := NB299_303.out
   have hms54_3 := NB299_307.out
   refine skip_ (w1 := ?_) (by rfl) rfl ?_ ?_
   rotate_left
   ·go_simp
    rfl
   refine hK.out _ _ ⟨((cell_far (p := ⟨gb299, _, none⟩) NB303_299.out _).trans (((cell_far (p := ⟨gb299, _, none⟩) NB303_299.out _).trans (hHeld.1)))), ((cell_far (p := ⟨gb299, _, none⟩) NB303_299.out _).trans (((cell_far (p := ⟨gb299, _, none⟩) NB303_299.out _).trans (hHeld.2.1)))), ((cell_far (p := ⟨gb299, _, none⟩) NB307_299.out _).trans (((cell_far (p := ⟨gb299, _, none⟩) NB307_299.out _).trans (hHeld.2.2.1)))), ((cell_far (p := ⟨gb299, _, none⟩) NB307_299.out _).trans (((cell_far (p := ⟨gb299, _, none⟩) NB307_299.out _).trans (hHeld.2.2.2))))⟩ (fun hHeld => ?_)
   clear hK K
   refine done_ (by kernel_rfl) ?_
   try go_wp2
   refine bodyPost_ret (results_cc rfl _ _ gb298 gb299 24 24 #[.int .i64 t300, .int .i64 t301] #[.int .i64 t304, .int .i64 t301] (0, 0) (0, 0) _ _ rfl (bkp BK298) Try.underlying24 rfl (by kernel_rfl) rfl (bkp BK299) Try.underlying24 rfl (by kernel_rfl)) rfl ?_
   exact ⟨by first | rfl | (simp [errW_none, errW_some] <;> rfl) | (simp [*, errW_none, errW_some] <;> rfl), IsS80.go_ HI0, hzI HB, hzk HK⟩
  ·rw [if_neg c30] at H
   have c30b0 : (t308 == 1) = false := beq_eq_false_iff_ne.mpr c30
   have c30b1 : (t308 != 1) = true := bne_iff_ne.mpr c30
   by_cases c55 : t308 = 2
   ·rw [if_pos c55] at H
    have c55b0 : (t308 == 2) = true := beq_iff_eq.mpr c55
    have c55b1 : (t308 != 2) = false := bne_eq_false_iff_eq.mpr c55
    clear c55
    replace H := Option.bind_eq_some_iff.mp H
    obtain ⟨⟨t310, t311, t312⟩, A560, H⟩ := H
    try dsimp only at H
    have A56 := Aside0.mk A560
    clear A560
    by_cases c57 : t312 = true
    ·subst c57
     have H1 : (some (t300, t301, t310, t311, t309)) = some (r1, r2, r3, r4, r5) := by rw [if_pos rfl] at H; exact H
     clear H
     have H := H1
     clear H1
     simp only [Option.some.injEq, Prod.mk.injEq] at H
     obtain ⟨rfl, rfl, rfl, rfl, rfl⟩ := H
     go_enter Try.func52, Try.ntmps52
     try go_wp2_with (first | ((with_reducible refine gate_dst (N := 2) rfl ?_); refine bE 2 #[.int .i64 0, .int .i64 0] 24 ?_; intro gb298 hg w58 hbox hb; have BK298 := Aside0.mk (hbox); have GW298 := ks hg (hzk HK); have GE298 := kw HW0 hg (hzk HK); have NB0_298 := nL hg (IsS80.lt (show IsS80 w0 _ g s0_0 s0_1 from IsS80.go_ HI0)); have NB298_0 := nG hg (IsS80.lt (show IsS80 w0 _ g s0_0 s0_1 from IsS80.go_ HI0)); replace HI0 := Aside0.mk (IsS80.below (IsS80.go_ HI0) hb); replace HK := Aside0.mk (KeepBut.trans (hzk HK) (KeepBut.of_below hb g none) (.inl rfl)); replace HB := hbb (hzI HB) hb; clear hb hbox hg) | ((with_reducible refine gate_dst (N := 3) rfl ?_); refine bE 3 #[.int .i64 0, .int .i64 0] 24 ?_; intro gb299 hg w59 hbox hb; have BK299 := Aside0.mk (hbox); have GW299 := ks hg (hzk HK); have GE299 := kw HW0 hg (hzk HK); have NB298_299 := nl hg (bk BK298); have NB299_298 := ng hg (bk BK298); have NB0_299 := nL hg (IsS80.lt (show IsS80 w0 _ g s0_0 s0_1 from IsS80.go_ HI0)); have NB299_0 := nG hg (IsS80.lt (show IsS80 w0 _ g s0_0 s0_1 from IsS80.go_ HI0)); replace HI0 := Aside0.mk (IsS80.below (IsS80.go_ HI0) hb); replace BK298 := bb (bk BK298) hb; replace HK := Aside0.mk (KeepBut.trans (hzk HK) (KeepBut.of_below hb g none) (.inl rfl)); replace HB := hbb (hzI HB) hb; clear hb hbox hg) | ((with_reducible refine gate_callee (f := 42) rfl ?_); refine gL 9 Try.func42 #[.pointer (some ⟨g, 0, none⟩)] ?_; (with_reducible refine (spec_l71Spot.calls k g s0_0 s0_1 t300 t301 t302 w0 _ ?side1 ?side2 A2.out).mono ?_); (case side1 => exact IsS80.go_ HI0); (case side2 => exact hzI HB); rintro e w60 ⟨rfl, hi, hb, hk⟩; refine ⟨_, rfl, ?_⟩; replace BK298 := kb hk (bk BK298) NB298_0; replace BK299 := kb hk (bk BK299) NB299_0; replace HK := Aside0.mk (KeepBut.trans (hzk HK) hk (.inl rfl)); replace HB := Aside0.mk (hb); replace HI0 := Aside0.mk (hi); clear hi hb hk) | ((with_reducible refine gate_dst (N := 4) rfl ?_); refine bE 4 #[.int .i64 0, .int .i64 0] 24 ?_; intro gb303 hg w61 hbox hb; have BK303 := Aside0.mk (hbox); have GW303 := ks hg (hzk HK); have GE303 := kw HW0 hg (hzk HK); have NB298_303 := nl hg (bk BK298); have NB303_298 := ng hg (bk BK298); have NB299_303 := nl hg (bk BK299); have NB303_299 := ng hg (bk BK299); have NB0_303 := nL hg (IsS80.lt (show IsS80 w0 _ g s0_0 t302 from IsS80.go_ HI0)); have NB303_0 := nG hg (IsS80.lt (show IsS80 w0 _ g s0_0 t302 from IsS80.go_ HI0)); replace HI0 := Aside0.mk (IsS80.below (IsS80.go_ HI0) hb); replace BK298 := bb (bk BK298) hb; replace BK299 := bb (bk BK299) hb; replace HK := Aside0.mk (KeepBut.trans (hzk HK) (KeepBut.of_below hb g none) (.inl rfl)); replace HB := hbb (hzI HB) hb; clear hb hbox hg; have hnb62 := NB303_298.out; have hnc62 := NB298_303.out; have hnb63 := NB303_299.out; have hnc63 := NB299_303.out; have hnb64 := NB303_0.out; have hnc64 := NB0_303.out; obtain ⟨hcz65_0, hcz65_1, hfz65_0, hfz65_1⟩ := cz2 BK303) | ((with_reducible refine gate_callee (f := 42) rfl ?_); refine gL 11 Try.func42 #[.pointer (some ⟨g, 0, none⟩)] ?_; (with_reducible refine (spec_l71Spot.calls k g s0_0 t302 t304 t305 t306 w0 _ ?side1 ?side2 A3.out).mono ?_); (case side1 => exact IsS80.go_ HI0); (case side2 => exact hzI HB); rintro e w66 ⟨rfl, hi, hb, hk⟩; refine ⟨_, rfl, ?_⟩; replace BK298 := kb hk (bk1 BK298 NB298_303) NB298_0; replace BK299 := kb hk (bk1 BK299 NB299_303) NB299_0; replace BK303 := kb (o := .cells #[.int .i64 t300, .int .i64 t301] 24 (0, 0)) hk (bkp BK303) NB303_0; replace HK := Aside0.mk (KeepBut.trans (hzk HK) hk (.inl rfl)); replace HB := Aside0.mk (hb); replace HI0 := Aside0.mk (hi); clear hi hb hk) | ((with_reducible refine gate_dst (N := 5) rfl ?_); refine bE 5 #[.int .i64 0, .int .i64 0] 24 ?_; intro gb307 hg w67 hbox hb; have BK307 := Aside0.mk (hbox); have GW307 := ks hg (hzk HK); have GE307 := kw HW0 hg (hzk HK); have NB298_307 := nl hg (bk BK298); have NB307_298 := ng hg (bk BK298); have NB299_307 := nl hg (bk BK299); have NB307_299 := ng hg (bk BK299); have NB303_307 := nl hg (bk BK303); have NB307_303 := ng hg (bk BK303); have NB0_307 := nL hg (IsS80.lt (show IsS80 w0 _ g s0_0 t306 from IsS80.go_ HI0)); have NB307_0 := nG hg (IsS80.lt (show IsS80 w0 _ g s0_0 t306 from IsS80.go_ HI0)); replace HI0 := Aside0.mk (IsS80.below (IsS80.go_ HI0) hb); replace BK298 := bb (bk BK298) hb; replace BK299 := bb (bk BK299) hb; replace BK303 := bb (bk BK303) hb; replace HK := Aside0.mk (KeepBut.trans (hzk HK) (KeepBut.of_below hb g none) (.inl rfl)); replace HB := hbb (hzI HB) hb; clear hb hbox hg; have hnb68 := NB307_298.out; have hnc68 := NB298_307.out; have hnb69 := NB307_299.out; have hnc69 := NB299_307.out; have hnb70 := NB307_303.out; have hnc70 := NB303_307.out; have hnb71 := NB307_0.out; have hnc71 := NB0_307.out; obtain ⟨hcz72_0, hcz72_1, hfz72_0, hfz72_1⟩ := cz2 BK307) | ((with_reducible refine gate_callee (f := 53) rfl ?_); refine gL 13 Try.func53 #[.pointer (some ⟨g, 0, none⟩), .int .i64 8] ?_; (with_reducible refine (spec_l6Rd_pick.calls k g s0_0 t306 8 t308 t309 w0 _ ?side1 ?side2 A4.out).mono ?_); (case side1 => exact IsS80.go_ HI0); (case side2 => exact hzI HB); rintro e w73 ⟨rfl, hi, hb, hk⟩; refine ⟨_, rfl, ?_⟩; replace BK298 := kb hk (bk1 BK298 NB298_307) NB298_0; replace BK299 := kb hk (bk1 BK299 NB299_307) NB299_0; replace BK303 := kb hk (bk1 BK303 NB303_307) NB303_0; replace BK307 := kb (o := .cells #[.int .i64 t304, .int .i64 t305] 24 (0, 0)) hk (bkp BK307) NB307_0; replace HK := Aside0.mk (KeepBut.trans (hzk HK) hk (.inl rfl)); replace HB := Aside0.mk (hb); replace HI0 := Aside0.mk (hi); clear hi hb hk; obtain ⟨hcz74_0, hcz74_1, hfz74_0, hfz74_1⟩ := cz2 BK303) | ((with_reducible refine gate_callee (f := 18) rfl ?_); refine gL 26 Try.func18 #[.agg #[.int .i64 t300, .int .i64 t301]] ?_; (with_reducible refine (spec_SpotFar.calls t300 t301 t310 t311 true _ A56.out).mono ?_); rintro e w75 ⟨rfl, hb⟩; refine ⟨_, rfl, ?_⟩; replace HI0 := Aside0.mk (IsS80.below (IsS80.go_ HI0) hb); replace BK298 := bb (bk BK298) hb; replace BK299 := bb (bk BK299) hb; replace BK303 := bb (bk BK303) hb; replace BK307 := bb (bk BK307) hb; replace HK := Aside0.mk (KeepBut.trans (hzk HK) (KeepBut.of_below hb g none) (.inl rfl)); replace HB := hbb (hzI HB) hb; clear hb) | ((with_reducible refine gate_dst (N := 6) rfl ?_); refine bE 6 #[.int .i64 0, .int .i64 0] 24 ?_; intro gb313 hg w76 hbox hb; have BK313 := Aside0.mk (hbox); have GW313 := ks hg (hzk HK); have GE313 := kw HW0 hg (hzk HK); have NB298_313 := nl hg (bk BK298); have NB313_298 := ng hg (bk BK298); have NB299_313 := nl hg (bk BK299); have NB313_299 := ng hg (bk BK299); have NB303_313 := nl hg (bk BK303); have NB313_303 := ng hg (bk BK303); have NB307_313 := nl hg (bk BK307); have NB313_307 := ng hg (bk BK307); have NB0_313 := nL hg (IsS80.lt (show IsS80 w0 _ g s0_0 t309 from IsS80.go_ HI0)); have NB313_0 := nG hg (IsS80.lt (show IsS80 w0 _ g s0_0 t309 from IsS80.go_ HI0)); replace HI0 := Aside0.mk (IsS80.below (IsS80.go_ HI0) hb); replace BK298 := bb (bk BK298) hb; replace BK299 := bb (bk BK299) hb; replace BK303 := bb (bk BK303) hb; replace BK307 := bb (bk BK307) hb; replace HK := Aside0.mk (KeepBut.trans (hzk HK) (KeepBut.of_below hb g none) (.inl rfl)); replace HB := hbb (hzI HB) hb; clear hb hbox hg; have hnb77 := NB313_298.out; have hnc77 := NB298_313.out; have hnb78 := NB313_299.out; have hnc78 := NB299_313.out; have hnb79 := NB313_303.out; have hnc79 := NB303_313.out; have hnb80 := NB313_307.out; have hnc80 := NB307_313.out; have hnb81 := NB313_0.out; have hnc81 := NB0_313.out; obtain ⟨hcz82_0, hcz82_1, hfz82_0, hfz82_1⟩ := cz2 BK313))
     have n0_ : Aside0 (((w76.setCell ⟨gb313, 0, none⟩ (.int .i64 t310)).setCell ⟨gb313, 1, none⟩ (.int .i64 t311)).heap[gb298]? = some (.cells #[.int .i64 0, .int .i64 0] 24 (0, 0))) := ⟨bk1 BK298 NB298_313⟩
     have n1_ : Aside0 (((w76.setCell ⟨gb313, 0, none⟩ (.int .i64 t310)).setCell ⟨gb313, 1, none⟩ (.int .i64 t311)).heap[gb299]? = some (.cells #[.int .i64 0, .int .i64 0] 24 (0, 0))) := ⟨bk1 BK299 NB299_313⟩
     have n2_ : Aside0 (((w76.setCell ⟨gb313, 0, none⟩ (.int .i64 t310)).setCell ⟨gb313, 1, none⟩ (.int .i64 t311)).heap[gb303]? = some (.cells #[.int .i64 t300, .int .i64 t301] 24 (0, 0))) := ⟨bk1 BK303 NB303_313⟩
     have n3_ : Aside0 (((w76.setCell ⟨gb313, 0, none⟩ (.int .i64 t310)).setCell ⟨gb313, 1, none⟩ (.int .i64 t311)).heap[gb307]? = some (.cells #[.int .i64 t304, .int .i64 t305] 24 (0, 0))) := ⟨bk1 BK307 NB307_313⟩
     have n4_ : Aside0 (((w76.setCell ⟨gb313, 0, none⟩ (.int .i64 t310)).setCell ⟨gb313, 1, none⟩ (.int .i64 t311)).heap[gb313]? = some (.cells #[.int .i64 t310, .int .i64 t311] 24 (0, 0))) := ⟨bkp BK313⟩
     have n5_ : Aside0 (IsS80 w0 ((w76.setCell ⟨gb313, 0, none⟩ (.int .i64 t310)).setCell ⟨gb313, 1, none⟩ (.int .i64 t311)) g s0_0 t309) := ⟨IsS80.go_ HI0⟩
     have n6_ : Aside0 (KeepBut w ((w76.setCell ⟨gb313, 0, none⟩ (.int .i64 t310)).setCell ⟨gb313, 1, none⟩ (.int .i64 t311)) g none) := ⟨hzk HK⟩
     have n7_ : Aside0 (Below w0.heap.size w0 ((w76.setCell ⟨gb313, 0, none⟩ (.int .i64 t310)).setCell ⟨gb313, 1, none⟩ (.int .i64 t311))) := ⟨hzI HB⟩
     (try clear BK298)
     (try clear BK299)
     (try clear BK303)
     (try clear BK307)
     (try clear BK313)
     (try clear HI0)
     (try clear HK)
     (try clear HB)
     generalize ((w76.setCell ⟨gb313, 0, none⟩ (.int .i64 t310)).setCell ⟨gb313, 1, none⟩ (.int .i64 t311)) = w83 at n0_ n1_ n2_ n3_ n4_ n5_ n6_ n7_ ⊢
     have BK298 := n0_
     have BK299 := n1_
     have BK303 := n2_
     have BK307 := n3_
     have BK313 := n4_
     have HI0 := n5_
     have HK := n6_
     have HB := n7_
     clear n0_ n1_ n2_ n3_ n4_ n5_ n6_ n7_
     replace BK298 := Aside0.mk (blk_drew BK298.out)
     replace BK299 := Aside0.mk (blk_drew BK299.out)
     replace BK303 := Aside0.mk (blk_drew BK303.out)
     replace BK307 := Aside0.mk (blk_drew BK307.out)
     replace BK313 := Aside0.mk (blk_drew BK313.out)
     replace HI0 := Aside0.mk (IsS80.drew HI0.out)
     replace HK := Aside0.mk (keep_drew HK.out)
     replace HB := Aside0.mk (below_drew1 HB.out)
     refine start_ (n := 4) (S := fun w' => w'.cell? ⟨gb303, 0, none⟩ = some (.int .i64 t300) ∧ w'.cell? ⟨gb303, 1, none⟩ = some (.int .i64 t301) ∧ w'.cell? ⟨gb313, 0, none⟩ = some (.int .i64 t310) ∧ w'.cell? ⟨gb313, 1, none⟩ = some (.int .i64 t311)) (ds := []) #[false, false, false, false] (by kernel_rfl) rfl rfl ⟨cw0 BK303, cw1 BK303, cw0 BK313, cw1 BK313⟩ (fun hHeld => ?_)
     generalize w83.drew = w84 at BK298 BK299 BK303 BK307 BK313 HI0 HK HB hHeld ⊢
     refine take_ (i := 0) (N := some 30) (v := ?_) (a' := ?_) #[true, false, false, false] rfl rfl (by kernel_rfl) (fun _ _ _ h => h) (Or.inl ⟨by rfl, ?_⟩) hHeld ?_ ?_
     rotate_left
     ·rintro w' ⟨s0, s1, s2, s3⟩
      go_simp
      with_reducible rfl
     rotate_left
     ·simp only [Act.put, List.setIfInBounds_toArray, List.set_cons_zero, List.set_cons_succ, i64_w, i32_w]
      rfl
     refine take_ (i := 1) (N := some 31) (v := ?_) (a' := ?_) #[true, true, false, false] rfl rfl (by kernel_rfl) (fun _ _ _ h => h) (Or.inl ⟨by rfl, ?_⟩) hHeld ?_ ?_
     rotate_left
     ·rintro w' ⟨s0, s1, s2, s3⟩
      go_simp
      with_reducible rfl
     rotate_left
     ·simp only [Act.put, List.setIfInBounds_toArray, List.set_cons_zero, List.set_cons_succ, i64_w, i32_w]
      rfl
     refine one_ (i := 2) (N := none) #[true, true, true, false] rfl rfl (by kernel_rfl) (by decide) (fun K hK => ?_)
     have hs85 : w84.cell? ⟨gb298, 0, none⟩ = some (.int .i64 0) := (blk_cell BK298.out 0).trans rfl
     have hfs85 := blk_frozen BK298.out 0
     have hns85_1 := NB299_298.out
     have hns85_2 := NB303_298.out
     have hns85_3 := NB307_298.out
     have hns85_4 := NB313_298.out
     have hms85_1 := NB298_299.out
     have hms85_2 := NB298_303.out
     have hms85_3 := NB298_307.out
     have hms85_4 := NB298_313.out
     have hs86 : w84.cell? ⟨gb298, 1, none⟩ = some (.int .i64 0) := (blk_cell BK298.out 1).trans rfl
     have hfs86 := blk_frozen BK298.out 1
     have hns86_1 := NB299_298.out
     have hns86_2 := NB303_298.out
     have hns86_3 := NB307_298.out
     have hns86_4 := NB313_298.out
     have hms86_1 := NB298_299.out
     have hms86_2 := NB298_303.out
     have hms86_3 := NB298_307.out
     have hms86_4 := NB298_313.out
     refine skip_ (w1 := ?_) (by rfl) rfl ?_ ?_
     rotate_left
     ·go_simp
      rfl
     refine hK.out _ _ ⟨((cell_far (p := ⟨gb298, _, none⟩) NB303_298.out _).trans (((cell_far (p := ⟨gb298, _, none⟩) NB303_298.out _).trans (hHeld.1)))), ((cell_far (p := ⟨gb298, _, none⟩) NB303_298.out _).trans (((cell_far (p := ⟨gb298, _, none⟩) NB303_298.out _).trans (hHeld.2.1)))), ((cell_far (p := ⟨gb298, _, none⟩) NB313_298.out _).trans (((cell_far (p := ⟨gb298, _, none⟩) NB313_298.out _).trans (hHeld.2.2.1)))), ((cell_far (p := ⟨gb298, _, none⟩) NB313_298.out _).trans (((cell_far (p := ⟨gb298, _, none⟩) NB313_298.out _).trans (hHeld.2.2.2))))⟩ (fun hHeld => ?_)
     clear hK K
     refine one_ (i := 3) (N := none) #[true, true, true, true] rfl rfl (by kernel_rfl) (by decide) (fun K hK => ?_)
     have hs87 : w84.cell? ⟨gb299, 0, none⟩ = some (.int .i64 0) := (blk_cell BK299.out 0).trans rfl
     have hfs87 := blk_frozen BK299.out 0
     have hns87_0 := NB298_299.out
     have hns87_2 := NB303_299.out
     have hns87_3 := NB307_299.out
     have hns87_4 := NB313_299.out
     have hms87_0 := NB299_298.out
     have hms87_2 := NB299_303.out
     have hms87_3 := NB299_307.out
     have hms87_4 := NB299_313.out
     have hs88 : w84.cell? ⟨gb299, 1, none⟩ = some (.int .i64 0) := (blk_cell BK299.out 1).trans rfl
     have hfs88 := blk_frozen BK299.out 1
     have hns88_0 := NB298_299.out
     have hns88_2 := NB303_299.out
     have hns88_3 := NB307_299.out
     have hns88_4 := NB313_299.out
     have hms88_0 := NB299_298.out
     have hms88_2 := NB299_303.out
     have hms88_3 := NB299_307.out
     have hms88_4 := NB299_313.out
     refine skip_ (w1 := ?_) (by rfl) rfl ?_ ?_
     rotate_left
     ·go_simp
      rfl
     refine hK.out _ _ ⟨((cell_far (p := ⟨gb299, _, none⟩) NB303_299.out _).trans (((cell_far (p := ⟨gb299, _, none⟩) NB303_299.out _).trans (hHeld.1)))), ((cell_far (p := ⟨gb299, _, none⟩) NB303_299.out _).trans (((cell_far (p := ⟨gb299, _, none⟩) NB303_299.out _).trans (hHeld.2.1)))), ((cell_far (p := ⟨gb299, _, none⟩) NB313_299.out _).trans (((cell_far (p := ⟨gb299, _, none⟩) NB313_299.out _).trans (hHeld.2.2.1)))), ((cell_far (p := ⟨gb299, _, none⟩) NB313_299.out _).trans (((cell_far (p := ⟨gb299, _, none⟩) NB313_299.out _).trans (hHeld.2.2.2))))⟩ (fun hHeld => ?_)
     clear hK K
     refine done_ (by kernel_rfl) ?_
     try go_wp2
     refine bodyPost_ret (results_cc rfl _ _ gb298 gb299 24 24 #[.int .i64 t300, .int .i64 t301] #[.int .i64 t310, .int .i64 t311] (0, 0) (0, 0) _ _ rfl (bkp BK298) Try.underlying24 rfl (by kernel_rfl) rfl (bkp BK299) Try.underlying24 rfl (by kernel_rfl)) rfl ?_
     exact ⟨by first | rfl | (simp [errW_none, errW_some] <;> rfl) | (simp [*, errW_none, errW_some] <;> rfl), IsS80.go_ HI0, hzI HB, hzk HK⟩
    ·replace c57 := Bool.eq_false_iff.mpr c57
     subst c57
     have H1 : (some (t300, t301, t304, t305, t309)) = some (r1, r2, r3, r4, r5) := by rw [if_neg (show ¬ (false = true) by decide)] at H; exact H
     clear H
     have H := H1
     clear H1
     simp only [Option.some.injEq, Prod.mk.injEq] at H
     obtain ⟨rfl, rfl, rfl, rfl, rfl⟩ := H
     go_enter Try.func52, Try.ntmps52
     try go_wp2_with (first | ((with_reducible refine gate_dst (N := 2) rfl ?_); refine bE 2 #[.int .i64 0, .int .i64 0] 24 ?_; intro gb298 hg w89 hbox hb; have BK298 := Aside0.mk (hbox); have GW298 := ks hg (hzk HK); have GE298 := kw HW0 hg (hzk HK); have NB0_298 := nL hg (IsS80.lt (show IsS80 w0 _ g s0_0 s0_1 from IsS80.go_ HI0)); have NB298_0 := nG hg (IsS80.lt (show IsS80 w0 _ g s0_0 s0_1 from IsS80.go_ HI0)); replace HI0 := Aside0.mk (IsS80.below (IsS80.go_ HI0) hb); replace HK := Aside0.mk (KeepBut.trans (hzk HK) (KeepBut.of_below hb g none) (.inl rfl)); replace HB := hbb (hzI HB) hb; clear hb hbox hg) | ((with_reducible refine gate_dst (N := 3) rfl ?_); refine bE 3 #[.int .i64 0, .int .i64 0] 24 ?_; intro gb299 hg w90 hbox hb; have BK299 := Aside0.mk (hbox); have GW299 := ks hg (hzk HK); have GE299 := kw HW0 hg (hzk HK); have NB298_299 := nl hg (bk BK298); have NB299_298 := ng hg (bk BK298); have NB0_299 := nL hg (IsS80.lt (show IsS80 w0 _ g s0_0 s0_1 from IsS80.go_ HI0)); have NB299_0 := nG hg (IsS80.lt (show IsS80 w0 _ g s0_0 s0_1 from IsS80.go_ HI0)); replace HI0 := Aside0.mk (IsS80.below (IsS80.go_ HI0) hb); replace BK298 := bb (bk BK298) hb; replace HK := Aside0.mk (KeepBut.trans (hzk HK) (KeepBut.of_below hb g none) (.inl rfl)); replace HB := hbb (hzI HB) hb; clear hb hbox hg) | ((with_reducible refine gate_callee (f := 42) rfl ?_); refine gL 9 Try.func42 #[.pointer (some ⟨g, 0, none⟩)] ?_; (with_reducible refine (spec_l71Spot.calls k g s0_0 s0_1 t300 t301 t302 w0 _ ?side1 ?side2 A2.out).mono ?_); (case side1 => exact IsS80.go_ HI0); (case side2 => exact hzI HB); rintro e w91 ⟨rfl, hi, hb, hk⟩; refine ⟨_, rfl, ?_⟩; replace BK298 := kb hk (bk BK298) NB298_0; replace BK299 := kb hk (bk BK299) NB299_0; replace HK := Aside0.mk (KeepBut.trans (hzk HK) hk (.inl rfl)); replace HB := Aside0.mk (hb); replace HI0 := Aside0.mk (hi); clear hi hb hk) | ((with_reducible refine gate_dst (N := 4) rfl ?_); refine bE 4 #[.int .i64 0, .int .i64 0] 24 ?_; intro gb303 hg w92 hbox hb; have BK303 := Aside0.mk (hbox); have GW303 := ks hg (hzk HK); have GE303 := kw HW0 hg (hzk HK); have NB298_303 := nl hg (bk BK298); have NB303_298 := ng hg (bk BK298); have NB299_303 := nl hg (bk BK299); have NB303_299 := ng hg (bk BK299); have NB0_303 := nL hg (IsS80.lt (show IsS80 w0 _ g s0_0 t302 from IsS80.go_ HI0)); have NB303_0 := nG hg (IsS80.lt (show IsS80 w0 _ g s0_0 t302 from IsS80.go_ HI0)); replace HI0 := Aside0.mk (IsS80.below (IsS80.go_ HI0) hb); replace BK298 := bb (bk BK298) hb; replace BK299 := bb (bk BK299) hb; replace HK := Aside0.mk (KeepBut.trans (hzk HK) (KeepBut.of_below hb g none) (.inl rfl)); replace HB := hbb (hzI HB) hb; clear hb hbox hg; have hnb93 := NB303_298.out; have hnc93 := NB298_303.out; have hnb94 := NB303_299.out; have hnc94 := NB299_303.out; have hnb95 := NB303_0.out; have hnc95 := NB0_303.out; obtain ⟨hcz96_0, hcz96_1, hfz96_0, hfz96_1⟩ := cz2 BK303) | ((with_reducible refine gate_callee (f := 42) rfl ?_); refine gL 11 Try.func42 #[.pointer (some ⟨g, 0, none⟩)] ?_; (with_reducible refine (spec_l71Spot.calls k g s0_0 t302 t304 t305 t306 w0 _ ?side1 ?side2 A3.out).mono ?_); (case side1 => exact IsS80.go_ HI0); (case side2 => exact hzI HB); rintro e w97 ⟨rfl, hi, hb, hk⟩; refine ⟨_, rfl, ?_⟩; replace BK298 := kb hk (bk1 BK298 NB298_303) NB298_0; replace BK299 := kb hk (bk1 BK299 NB299_303) NB299_0; replace BK303 := kb (o := .cells #[.int .i64 t300, .int .i64 t301] 24 (0, 0)) hk (bkp BK303) NB303_0; replace HK := Aside0.mk (KeepBut.trans (hzk HK) hk (.inl rfl)); replace HB := Aside0.mk (hb); replace HI0 := Aside0.mk (hi); clear hi hb hk) | ((with_reducible refine gate_dst (N := 5) rfl ?_); refine bE 5 #[.int .i64 0, .int .i64 0] 24 ?_; intro gb307 hg w98 hbox hb; have BK307 := Aside0.mk (hbox); have GW307 := ks hg (hzk HK); have GE307 := kw HW0 hg (hzk HK); have NB298_307 := nl hg (bk BK298); have NB307_298 := ng hg (bk BK298); have NB299_307 := nl hg (bk BK299); have NB307_299 := ng hg (bk BK299); have NB303_307 := nl hg (bk BK303); have NB307_303 := ng hg (bk BK303); have NB0_307 := nL hg (IsS80.lt (show IsS80 w0 _ g s0_0 t306 from IsS80.go_ HI0)); have NB307_0 := nG hg (IsS80.lt (show IsS80 w0 _ g s0_0 t306 from IsS80.go_ HI0)); replace HI0 := Aside0.mk (IsS80.below (IsS80.go_ HI0) hb); replace BK298 := bb (bk BK298) hb; replace BK299 := bb (bk BK299) hb; replace BK303 := bb (bk BK303) hb; replace HK := Aside0.mk (KeepBut.trans (hzk HK) (KeepBut.of_below hb g none) (.inl rfl)); replace HB := hbb (hzI HB) hb; clear hb hbox hg; have hnb99 := NB307_298.out; have hnc99 := NB298_307.out; have hnb100 := NB307_299.out; have hnc100 := NB299_307.out; have hnb101 := NB307_303.out; have hnc101 := NB303_307.out; have hnb102 := NB307_0.out; have hnc102 := NB0_307.out; obtain ⟨hcz103_0, hcz103_1, hfz103_0, hfz103_1⟩ := cz2 BK307) | ((with_reducible refine gate_callee (f := 53) rfl ?_); refine gL 13 Try.func53 #[.pointer (some ⟨g, 0, none⟩), .int .i64 8] ?_; (with_reducible refine (spec_l6Rd_pick.calls k g s0_0 t306 8 t308 t309 w0 _ ?side1 ?side2 A4.out).mono ?_); (case side1 => exact IsS80.go_ HI0); (case side2 => exact hzI HB); rintro e w104 ⟨rfl, hi, hb, hk⟩; refine ⟨_, rfl, ?_⟩; replace BK298 := kb hk (bk1 BK298 NB298_307) NB298_0; replace BK299 := kb hk (bk1 BK299 NB299_307) NB299_0; replace BK303 := kb hk (bk1 BK303 NB303_307) NB303_0; replace BK307 := kb (o := .cells #[.int .i64 t304, .int .i64 t305] 24 (0, 0)) hk (bkp BK307) NB307_0; replace HK := Aside0.mk (KeepBut.trans (hzk HK) hk (.inl rfl)); replace HB := Aside0.mk (hb); replace HI0 := Aside0.mk (hi); clear hi hb hk; obtain ⟨hcz105_0, hcz105_1, hfz105_0, hfz105_1⟩ := cz2 BK303) | ((with_reducible refine gate_callee (f := 18) rfl ?_); refine gL 26 Try.func18 #[.agg #[.int .i64 t300, .int .i64 t301]] ?_; (with_reducible refine (spec_SpotFar.calls t300 t301 t310 t311 false _ A56.out).mono ?_); rintro e w106 ⟨rfl, hb⟩; refine ⟨_, rfl, ?_⟩; replace HI0 := Aside0.mk (IsS80.below (IsS80.go_ HI0) hb); replace BK298 := bb (bk BK298) hb; replace BK299 := bb (bk BK299) hb; replace BK303 := bb (bk BK303) hb; replace BK307 := bb (bk BK307) hb; replace HK := Aside0.mk (KeepBut.trans (hzk HK) (KeepBut.of_below hb g none) (.inl rfl)); replace HB := hbb (hzI HB) hb; clear hb) | ((with_reducible refine gate_dst (N := 6) rfl ?_); refine bE 6 #[.int .i64 0, .int .i64 0] 24 ?_; intro gb313 hg w107 hbox hb; have BK313 := Aside0.mk (hbox); have GW313 := ks hg (hzk HK); have GE313 := kw HW0 hg (hzk HK); have NB298_313 := nl hg (bk BK298); have NB313_298 := ng hg (bk BK298); have NB299_313 := nl hg (bk BK299); have NB313_299 := ng hg (bk BK299); have NB303_313 := nl hg (bk BK303); have NB313_303 := ng hg (bk BK303); have NB307_313 := nl hg (bk BK307); have NB313_307 := ng hg (bk BK307); have NB0_313 := nL hg (IsS80.lt (show IsS80 w0 _ g s0_0 t309 from IsS80.go_ HI0)); have NB313_0 := nG hg (IsS80.lt (show IsS80 w0 _ g s0_0 t309 from IsS80.go_ HI0)); replace HI0 := Aside0.mk (IsS80.below (IsS80.go_ HI0) hb); replace BK298 := bb (bk BK298) hb; replace BK299 := bb (bk BK299) hb; replace BK303 := bb (bk BK303) hb; replace BK307 := bb (bk BK307) hb; replace HK := Aside0.mk (KeepBut.trans (hzk HK) (KeepBut.of_below hb g none) (.inl rfl)); replace HB := hbb (hzI HB) hb; clear hb hbox hg; have hnb108 := NB313_298.out; have hnc108 := NB298_313.out; have hnb109 := NB313_299.out; have hnc109 := NB299_313.out; have hnb110 := NB313_303.out; have hnc110 := NB303_313.out; have hnb111 := NB313_307.out; have hnc111 := NB307_313.out; have hnb112 := NB313_0.out; have hnc112 := NB0_313.out; obtain ⟨hcz113_0, hcz113_1, hfz113_0, hfz113_1⟩ := cz2 BK313))
     have n0_ : Aside0 (((w107.setCell ⟨gb313, 0, none⟩ (.int .i64 t310)).setCell ⟨gb313, 1, none⟩ (.int .i64 t311)).heap[gb298]? = some (.cells #[.int .i64 0, .int .i64 0] 24 (0, 0))) := ⟨bk1 BK298 NB298_313⟩
     have n1_ : Aside0 (((w107.setCell ⟨gb313, 0, none⟩ (.int .i64 t310)).setCell ⟨gb313, 1, none⟩ (.int .i64 t311)).heap[gb299]? = some (.cells #[.int .i64 0, .int .i64 0] 24 (0, 0))) := ⟨bk1 BK299 NB299_313⟩
     have n2_ : Aside0 (((w107.setCell ⟨gb313, 0, none⟩ (.int .i64 t310)).setCell ⟨gb313, 1, none⟩ (.int .i64 t311)).heap[gb303]? = some (.cells #[.int .i64 t300, .int .i64 t301] 24 (0, 0))) := ⟨bk1 BK303 NB303_313⟩
     have n3_ : Aside0 (((w107.setCell ⟨gb313, 0, none⟩ (.int .i64 t310)).setCell ⟨gb313, 1, none⟩ (.int .i64 t311)).heap[gb307]? = some (.cells #[.int .i64 t304, .int .i64 t305] 24 (0, 0))) := ⟨bk1 BK307 NB307_313⟩
     have n4_ : Aside0 (((w107.setCell ⟨gb313, 0, none⟩ (.int .i64 t310)).setCell ⟨gb313, 1, none⟩ (.int .i64 t311)).heap[gb313]? = some (.cells #[.int .i64 t310, .int .i64 t311] 24 (0, 0))) := ⟨bkp BK313⟩
     have n5_ : Aside0 (IsS80 w0 ((w107.setCell ⟨gb313, 0, none⟩ (.int .i64 t310)).setCell ⟨gb313, 1, none⟩ (.int .i64 t311)) g s0_0 t309) := ⟨IsS80.go_ HI0⟩
     have n6_ : Aside0 (KeepBut w ((w107.setCell ⟨gb313, 0, none⟩ (.int .i64 t310)).setCell ⟨gb313, 1, none⟩ (.int .i64 t311)) g none) := ⟨hzk HK⟩
     have n7_ : Aside0 (Below w0.heap.size w0 ((w107.setCell ⟨gb313, 0, none⟩ (.int .i64 t310)).setCell ⟨gb313, 1, none⟩ (.int .i64 t311))) := ⟨hzI HB⟩
     (try clear BK298)
     (try clear BK299)
     (try clear BK303)
     (try clear BK307)
     (try clear BK313)
     (try clear HI0)
     (try clear HK)
     (try clear HB)
     generalize ((w107.setCell ⟨gb313, 0, none⟩ (.int .i64 t310)).setCell ⟨gb313, 1, none⟩ (.int .i64 t311)) = w114 at n0_ n1_ n2_ n3_ n4_ n5_ n6_ n7_ ⊢
     have BK298 := n0_
     have BK299 := n1_
     have BK303 := n2_
     have BK307 := n3_
     have BK313 := n4_
     have HI0 := n5_
     have HK := n6_
     have HB := n7_
     clear n0_ n1_ n2_ n3_ n4_ n5_ n6_ n7_
     replace BK298 := Aside0.mk (blk_drew BK298.out)
     replace BK299 := Aside0.mk (blk_drew BK299.out)
     replace BK303 := Aside0.mk (blk_drew BK303.out)
     replace BK307 := Aside0.mk (blk_drew BK307.out)
     replace BK313 := Aside0.mk (blk_drew BK313.out)
     replace HI0 := Aside0.mk (IsS80.drew HI0.out)
     replace HK := Aside0.mk (keep_drew HK.out)
     replace HB := Aside0.mk (below_drew1 HB.out)
     refine start_ (n := 4) (S := fun w' => w'.cell? ⟨gb303, 0, none⟩ = some (.int .i64 t300) ∧ w'.cell? ⟨gb303, 1, none⟩ = some (.int .i64 t301) ∧ w'.cell? ⟨gb307, 0, none⟩ = some (.int .i64 t304) ∧ w'.cell? ⟨gb307, 1, none⟩ = some (.int .i64 t305)) (ds := []) #[false, false, false, false] (by kernel_rfl) rfl rfl ⟨cw0 BK303, cw1 BK303, cw0 BK307, cw1 BK307⟩ (fun hHeld => ?_)
     generalize w114.drew = w115 at BK298 BK299 BK303 BK307 BK313 HI0 HK HB hHeld ⊢
     refine take_ (i := 0) (N := some 39) (v := ?_) (a' := ?_) #[true, false, false, false] rfl rfl (by kernel_rfl) (fun _ _ _ h => h) (Or.inl ⟨by rfl, ?_⟩) hHeld ?_ ?_
     rotate_left
     ·rintro w' ⟨s0, s1, s2, s3⟩
      go_simp
      with_reducible rfl
     rotate_left
     ·simp only [Act.put, List.setIfInBounds_toArray, List.set_cons_zero, List.set_cons_succ, i64_w, i32_w]
      rfl
     refine take_ (i := 1) (N := some 40) (v := ?_) (a' := ?_) #[true, true, false, false] rfl rfl (by kernel_rfl) (fun _ _ _ h => h) (Or.inl ⟨by rfl, ?_⟩) hHeld ?_ ?_
     rotate_left
     ·rintro w' ⟨s0, s1, s2, s3⟩
      go_simp
      with_reducible rfl
     rotate_left
     ·simp only [Act.put, List.setIfInBounds_toArray, List.set_cons_zero, List.set_cons_succ, i64_w, i32_w]
      rfl
     refine one_ (i := 2) (N := none) #[true, true, true, false] rfl rfl (by kernel_rfl) (by decide) (fun K hK => ?_)
     have hs116 : w115.cell? ⟨gb298, 0, none⟩ = some (.int .i64 0) := (blk_cell BK298.out 0).trans rfl
     have hfs116 := blk_frozen BK298.out 0
     have hns116_1 := NB299_298.out
     have hns116_2 := NB303_298.out
     have hns116_3 := NB307_298.out
     have hns116_4 := NB313_298.out
     have hms116_1 := NB298_299.out
     have hms116_2 := NB298_303.out
     have hms116_3 := NB298_307.out
     have hms116_4 := NB298_313.out
     have hs117 : w115.cell? ⟨gb298, 1, none⟩ = some (.int .i64 0) := (blk_cell BK298.out 1).trans rfl
     have hfs117 := blk_frozen BK298.out 1
     have hns117_1 := NB299_298.out
     have hns117_2 := NB303_298.out
     have hns117_3 := NB307_298.out
     have hns117_4 := NB313_298.out
     have hms117_1 := NB298_299.out
     have hms117_2 := NB298_303.out
     have hms117_3 := NB298_307.out
     have hms117_4 := NB298_313.out
     refine skip_ (w1 := ?_) (by rfl) rfl ?_ ?_
     rotate_left
     ·go_simp
      rfl
     refine hK.out _ _ ⟨((cell_far (p := ⟨gb298, _, none⟩) NB303_298.out _).trans (((cell_far (p := ⟨gb298, _, none⟩) NB303_298.out _).trans (hHeld.1)))), ((cell_far (p := ⟨gb298, _, none⟩) NB303_298.out _).trans (((cell_far (p := ⟨gb298, _, none⟩) NB303_298.out _).trans (hHeld.2.1)))), ((cell_far (p := ⟨gb298, _, none⟩) NB307_298.out _).trans (((cell_far (p := ⟨gb298, _, none⟩) NB307_298.out _).trans (hHeld.2.2.1)))), ((cell_far (p := ⟨gb298, _, none⟩) NB307_298.out _).trans (((cell_far (p := ⟨gb298, _, none⟩) NB307_298.out _).trans (hHeld.2.2.2))))⟩ (fun hHeld => ?_)
     clear hK K
     refine one_ (i := 3) (N := none) #[true, true, true, true] rfl rfl (by kernel_rfl) (by decide) (fun K hK => ?_)
     have hs118 : w115.cell? ⟨gb299, 0, none⟩ = some (.int .i64 0) := (blk_cell BK299.out 0).trans rfl
     have hfs118 := blk_frozen BK299.out 0
     have hns118_0 := NB298_299.out
     have hns118_2 := NB303_299.out
     have hns118_3 := NB307_299.out
     have hns118_4 := NB313_299.out
     have hms118_0 := NB299_298.out
     have hms118_2 := NB299_303.out
     have hms118_3 := NB299_307.out
     have hms118_4 := NB299_313.out
     have hs119 : w115.cell? ⟨gb299, 1, none⟩ = some (.int .i64 0) := (blk_cell BK299.out 1).trans rfl
     have hfs119 := blk_frozen BK299.out 1
     have hns119_0 := NB298_299.out
     have hns119_2 := NB303_299.out
     have hns119_3 := NB307_299.out
     have hns119_4 := NB313_299.out
     have hms119_0 := NB299_298.out
     have hms119_2 := NB299_303.out
     have hms119_3 := NB299_307.out
     have hms119_4 := NB299_313.out
     refine skip_ (w1 := ?_) (by rfl) rfl ?_ ?_
     rotate_left
     ·go_simp
      rfl
     refine hK.out _ _ ⟨((cell_far (p := ⟨gb299, _, none⟩) NB303_299.out _).trans (((cell_far (p := ⟨gb299, _, none⟩) NB303_299.out _).trans (hHeld.1)))), ((cell_far (p := ⟨gb299, _, none⟩) NB303_299.out _).trans (((cell_far (p := ⟨gb299, _, none⟩) NB303_299.out _).trans (hHeld.2.1)))), ((cell_far (p := ⟨gb299, _, none⟩) NB307_299.out _).trans (((cell_far (p := ⟨gb299, _, none⟩) NB307_299.out _).trans (hHeld.2.2.1)))), ((cell_far (p := ⟨gb299, _, none⟩) NB307_299.out _).trans (((cell_far (p := ⟨gb299, _, none⟩) NB307_299.out _).trans (hHeld.2.2.2))))⟩ (fun hHeld => ?_)
     clear hK K
     refine done_ (by kernel_rfl) ?_
     try go_wp2
     refine bodyPost_ret (results_cc rfl _ _ gb298 gb299 24 24 #[.int .i64 t300, .int .i64 t301] #[.int .i64 t304, .int .i64 t305] (0, 0) (0, 0) _ _ rfl (bkp BK298) Try.underlying24 rfl (by kernel_rfl) rfl (bkp BK299) Try.underlying24 rfl (by kernel_rfl)) rfl ?_
     exact ⟨by first | rfl | (simp [errW_none, errW_some] <;> rfl) | (simp [*, errW_none, errW_some] <;> rfl), IsS80.go_ HI0, hzI HB, hzk HK⟩
   ·rw [if_neg c55] at H
    have c55b0 : (t308 == 2) = false := beq_eq_false_iff_ne.mpr c55
    have c55b1 : (t308 != 2) = true := bne_iff_ne.mpr c55
    by_cases c120 : t308 = 3
    ·rw [if_pos c120] at H
     have c120b0 : (t308 == 3) = true := beq_iff_eq.mpr c120
     have c120b1 : (t308 != 3) = false := bne_eq_false_iff_eq.mpr c120
     clear c120
     replace H := Option.bind_eq_some_iff.mp H
     obtain ⟨⟨t314, t315⟩, A1210, H⟩ := H
     try dsimp only at H
     have A121 := Aside0.mk A1210
     clear A1210
     simp only [Option.some.injEq, Prod.mk.injEq] at H
     obtain ⟨rfl, rfl, rfl, rfl, rfl⟩ := H
     go_enter Try.func52, Try.ntmps52
     try go_wp2_with (first | ((with_reducible refine gate_dst (N := 2) rfl ?_); refine bE 2 #[.int .i64 0, .int .i64 0] 24 ?_; intro gb298 hg w122 hbox hb; have BK298 := Aside0.mk (hbox); have GW298 := ks hg (hzk HK); have GE298 := kw HW0 hg (hzk HK); have NB0_298 := nL hg (IsS80.lt (show IsS80 w0 _ g s0_0 s0_1 from IsS80.go_ HI0)); have NB298_0 := nG hg (IsS80.lt (show IsS80 w0 _ g s0_0 s0_1 from IsS80.go_ HI0)); replace HI0 := Aside0.mk (IsS80.below (IsS80.go_ HI0) hb); replace HK := Aside0.mk (KeepBut.trans (hzk HK) (KeepBut.of_below hb g none) (.inl rfl)); replace HB := hbb (hzI HB) hb; clear hb hbox hg) | ((with_reducible refine gate_dst (N := 3) rfl ?_); refine bE 3 #[.int .i64 0, .int .i64 0] 24 ?_; intro gb299 hg w123 hbox hb; have BK299 := Aside0.mk (hbox); have GW299 := ks hg (hzk HK); have GE299 := kw HW0 hg (hzk HK); have NB298_299 := nl hg (bk BK298); have NB299_298 := ng hg (bk BK298); have NB0_299 := nL hg (IsS80.lt (show IsS80 w0 _ g s0_0 s0_1 from IsS80.go_ HI0)); have NB299_0 := nG hg (IsS80.lt (show IsS80 w0 _ g s0_0 s0_1 from IsS80.go_ HI0)); replace HI0 := Aside0.mk (IsS80.below (IsS80.go_ HI0) hb); replace BK298 := bb (bk BK298) hb; replace HK := Aside0.mk (KeepBut.trans (hzk HK) (KeepBut.of_below hb g none) (.inl rfl)); replace HB := hbb (hzI HB) hb; clear hb hbox hg) | ((with_reducible refine gate_callee (f := 42) rfl ?_); refine gL 9 Try.func42 #[.pointer (some ⟨g, 0, none⟩)] ?_; (with_reducible refine (spec_l71Spot.calls k g s0_0 s0_1 t300 t301 t302 w0 _ ?side1 ?side2 A2.out).mono ?_); (case side1 => exact IsS80.go_ HI0); (case side2 => exact hzI HB); rintro e w124 ⟨rfl, hi, hb, hk⟩; refine ⟨_, rfl, ?_⟩; replace BK298 := kb hk (bk BK298) NB298_0; replace BK299 := kb hk (bk BK299) NB299_0; replace HK := Aside0.mk (KeepBut.trans (hzk HK) hk (.inl rfl)); replace HB := Aside0.mk (hb); replace HI0 := Aside0.mk (hi); clear hi hb hk) | ((with_reducible refine gate_dst (N := 4) rfl ?_); refine bE 4 #[.int .i64 0, .int .i64 0] 24 ?_; intro gb303 hg w125 hbox hb; have BK303 := Aside0.mk (hbox); have GW303 := ks hg (hzk HK); have GE303 := kw HW0 hg (hzk HK); have NB298_303 := nl hg (bk BK298); have NB303_298 := ng hg (bk BK298); have NB299_303 := nl hg (bk BK299); have NB303_299 := ng hg (bk BK299); have NB0_303 := nL hg (IsS80.lt (show IsS80 w0 _ g s0_0 t302 from IsS80.go_ HI0)); have NB303_0 := nG hg (IsS80.lt (show IsS80 w0 _ g s0_0 t302 from IsS80.go_ HI0)); replace HI0 := Aside0.mk (IsS80.below (IsS80.go_ HI0) hb); replace BK298 := bb (bk BK298) hb; replace BK299 := bb (bk BK299) hb; replace HK := Aside0.mk (KeepBut.trans (hzk HK) (KeepBut.of_below hb g none) (.inl rfl)); replace HB := hbb (hzI HB) hb; clear hb hbox hg; have hnb126 := NB303_298.out; have hnc126 := NB298_303.out; have hnb127 := NB303_299.out; have hnc127 := NB299_303.out; have hnb128 := NB303_0.out; have hnc128 := NB0_303.out; obtain ⟨hcz129_0, hcz129_1, hfz129_0, hfz129_1⟩ := cz2 BK303) | ((with_reducible refine gate_callee (f := 42) rfl ?_); refine gL 11 Try.func42 #[.pointer (some ⟨g, 0, none⟩)] ?_; (with_reducible refine (spec_l71Spot.calls k g s0_0 t302 t304 t305 t306 w0 _ ?side1 ?side2 A3.out).mono ?_); (case side1 => exact IsS80.go_ HI0); (case side2 => exact hzI HB); rintro e w130 ⟨rfl, hi, hb, hk⟩; refine ⟨_, rfl, ?_⟩; replace BK298 := kb hk (bk1 BK298 NB298_303) NB298_0; replace BK299 := kb hk (bk1 BK299 NB299_303) NB299_0; replace BK303 := kb (o := .cells #[.int .i64 t300, .int .i64 t301] 24 (0, 0)) hk (bkp BK303) NB303_0; replace HK := Aside0.mk (KeepBut.trans (hzk HK) hk (.inl rfl)); replace HB := Aside0.mk (hb); replace HI0 := Aside0.mk (hi); clear hi hb hk) | ((with_reducible refine gate_dst (N := 5) rfl ?_); refine bE 5 #[.int .i64 0, .int .i64 0] 24 ?_; intro gb307 hg w131 hbox hb; have BK307 := Aside0.mk (hbox); have GW307 := ks hg (hzk HK); have GE307 := kw HW0 hg (hzk HK); have NB298_307 := nl hg (bk BK298); have NB307_298 := ng hg (bk BK298); have NB299_307 := nl hg (bk BK299); have NB307_299 := ng hg (bk BK299); have NB303_307 := nl hg (bk BK303); have NB307_303 := ng hg (bk BK303); have NB0_307 := nL hg (IsS80.lt (show IsS80 w0 _ g s0_0 t306 from IsS80.go_ HI0)); have NB307_0 := nG hg (IsS80.lt (show IsS80 w0 _ g s0_0 t306 from IsS80.go_ HI0)); replace HI0 := Aside0.mk (IsS80.below (IsS80.go_ HI0) hb); replace BK298 := bb (bk BK298) hb; replace BK299 := bb (bk BK299) hb; replace BK303 := bb (bk BK303) hb; replace HK := Aside0.mk (KeepBut.trans (hzk HK) (KeepBut.of_below hb g none) (.inl rfl)); replace HB := hbb (hzI HB) hb; clear hb hbox hg; have hnb132 := NB307_298.out; have hnc132 := NB298_307.out; have hnb133 := NB307_299.out; have hnc133 := NB299_307.out; have hnb134 := NB307_303.out; have hnc134 := NB303_307.out; have hnb135 := NB307_0.out; have hnc135 := NB0_307.out; obtain ⟨hcz136_0, hcz136_1, hfz136_0, hfz136_1⟩ := cz2 BK307) | ((with_reducible refine gate_callee (f := 53) rfl ?_); refine gL 13 Try.func53 #[.pointer (some ⟨g, 0, none⟩), .int .i64 8] ?_; (with_reducible refine (spec_l6Rd_pick.calls k g s0_0 t306 8 t308 t309 w0 _ ?side1 ?side2 A4.out).mono ?_); (case side1 => exact IsS80.go_ HI0); (case side2 => exact hzI HB); rintro e w137 ⟨rfl, hi, hb, hk⟩; refine ⟨_, rfl, ?_⟩; replace BK298 := kb hk (bk1 BK298 NB298_307) NB298_0; replace BK299 := kb hk (bk1 BK299 NB299_307) NB299_0; replace BK303 := kb hk (bk1 BK303 NB303_307) NB303_0; replace BK307 := kb (o := .cells #[.int .i64 t304, .int .i64 t305] 24 (0, 0)) hk (bkp BK307) NB307_0; replace HK := Aside0.mk (KeepBut.trans (hzk HK) hk (.inl rfl)); replace HB := Aside0.mk (hb); replace HI0 := Aside0.mk (hi); clear hi hb hk))
     replace BK298 := Aside0.mk (blk_drew BK298.out)
     replace BK299 := Aside0.mk (blk_drew BK299.out)
     replace BK303 := Aside0.mk (blk_drew BK303.out)
     replace BK307 := Aside0.mk (blk_drew BK307.out)
     replace HI0 := Aside0.mk (IsS80.drew HI0.out)
     replace HK := Aside0.mk (keep_drew HK.out)
     replace HB := Aside0.mk (below_drew1 HB.out)
     refine start_ (n := 6) (S := fun w' => w'.cell? ⟨gb303, 0, none⟩ = some (.int .i64 t300) ∧ w'.cell? ⟨gb303, 1, none⟩ = some (.int .i64 t301)) (ds := []) #[false, false, false, false, false, false] (by kernel_rfl) rfl rfl ⟨cw0 BK303, cw1 BK303⟩ (fun hHeld => ?_)
     generalize w137.drew = w138 at BK298 BK299 BK303 BK307 HI0 HK HB hHeld ⊢
     refine pure_ (i := 0) (N := some 34) (v := ?_) (a' := ?_) #[true, false, false, false, false, false] rfl rfl (by kernel_rfl) (fun _ _ _ h => h) (Or.inl ⟨by rfl, ?_⟩) ?_ ?_
     rotate_left
     ·intro w'
      go_simp
      with_reducible rfl
     rotate_left
     ·simp only [Act.put, List.setIfInBounds_toArray, List.set_cons_zero, List.set_cons_succ, i64_w, i32_w]
      rfl
     refine pure_ (i := 2) (N := some 36) (v := ?_) (a' := ?_) #[true, false, true, false, false, false] rfl rfl (by kernel_rfl) (fun _ _ _ h => h) (Or.inl ⟨by rfl, ?_⟩) ?_ ?_
     rotate_left
     ·intro w'
      go_simp
      with_reducible rfl
     rotate_left
     ·simp only [Act.put, List.setIfInBounds_toArray, List.set_cons_zero, List.set_cons_succ, i64_w, i32_w]
      rfl
     refine take_ (i := 1) (N := some 35) (v := ?_) (a' := ?_) #[true, true, true, false, false, false] rfl rfl (by kernel_rfl) (fun _ _ _ h => h) (Or.inl ⟨by rfl, ?_⟩) hHeld ?_ ?_
     rotate_left
     ·rintro w' ⟨s0, s1⟩
      go_simp
      with_reducible rfl
     rotate_left
     ·simp only [Act.put, List.setIfInBounds_toArray, List.set_cons_zero, List.set_cons_succ, i64_w, i32_w]
      rfl
     refine one_ (i := 3) (N := some 37) #[true, true, true, true, false, false] rfl rfl (by kernel_rfl) (by decide) (fun K hK => ?_)
     refine gS Try.func53 #[.pointer (some ⟨g, 0, none⟩), .int .i64 129600000] ?_
     with_reducible refine (spec_l6Rd_pick.calls k g s0_0 t309 129600000 t314 t315 w0 _ ?side1 ?side2 A121.out).mono ?_
     (case side1 => exact IsS80.go_ HI0)
     (case side2 => exact hzI HB)
     rintro e w139 ⟨rfl, hi, hb, hk⟩
     refine ⟨_, rfl, ?_⟩
     replace BK298 := kb hk (bk BK298) NB298_0
     replace BK299 := kb hk (bk BK299) NB299_0
     replace BK303 := kb hk (bk BK303) NB303_0
     replace BK307 := kb hk (bk BK307) NB307_0
     replace HK := Aside0.mk (KeepBut.trans (hzk HK) hk (.inl rfl))
     replace HB := Aside0.mk (hb)
     replace HI0 := Aside0.mk (hi)
     clear hi hb hk
     refine hK.out _ _ ⟨cw0 BK303, cw1 BK303⟩ (fun hHeld => ?_)
     clear hK K
     refine nP ?_
     refine pure_ (i := 4) (N := some 38) (v := ?_) (a' := ?_) #[true, true, true, true, true, false] rfl rfl (by kernel_rfl) (fun _ _ _ h => h) (Or.inl ⟨by rfl, ?_⟩) ?_ ?_
     rotate_left
     ·intro w'
      go_simp
      with_reducible rfl
     rotate_left
     ·simp only [Act.put, List.setIfInBounds_toArray, List.set_cons_zero, List.set_cons_succ, i64_w, i32_w]
      rfl
     refine one_ (i := 5) (N := none) #[true, true, true, true, true, true] rfl rfl (by kernel_rfl) (by decide) (fun K hK => ?_)
     have hs140 : w139.cell? ⟨gb307, 0, none⟩ = some (.int .i64 t304) := (blk_cell BK307.out 0).trans rfl
     have hfs140 := blk_frozen BK307.out 0
     have hns140_0 := NB298_307.out
     have hns140_1 := NB299_307.out
     have hns140_2 := NB303_307.out
     have hms140_0 := NB307_298.out
     have hms140_1 := NB307_299.out
     have hms140_2 := NB307_303.out
     have hs141 : w139.cell? ⟨gb307, 1, none⟩ = some (.int .i64 t305) := (blk_cell BK307.out 1).trans rfl
     have hfs141 := blk_frozen BK307.out 1
     have hns141_0 := NB298_307.out
     have hns141_1 := NB299_307.out
     have hns141_2 := NB303_307.out
     have hms141_0 := NB307_298.out
     have hms141_1 := NB307_299.out
     have hms141_2 := NB307_303.out
     refine skip_ (w1 := ?_) (by rfl) rfl ?_ ?_
     rotate_left
     ·go_simp
      rfl
     refine hK.out _ _ ⟨((cell_far (p := ⟨gb307, _, none⟩) NB303_307.out _).trans (((cell_far (p := ⟨gb307, _, none⟩) NB303_307.out _).trans (hHeld.1)))), ((cell_far (p := ⟨gb307, _, none⟩) NB303_307.out _).trans (((cell_far (p := ⟨gb307, _, none⟩) NB303_307.out _).trans (hHeld.2))))⟩ (fun hHeld => ?_)
     clear hK K
     refine done_ (by kernel_rfl) ?_
     try go_wp2
     have n0_ : Aside0 (((w139.setCell ⟨gb307, 0, none⟩ (.int .i64 t300)).setCell ⟨gb307, 1, none⟩ (.int .i64 t314)).heap[gb298]? = some (.cells #[.int .i64 0, .int .i64 0] 24 (0, 0))) := ⟨bk1 BK298 NB298_307⟩
     have n1_ : Aside0 (((w139.setCell ⟨gb307, 0, none⟩ (.int .i64 t300)).setCell ⟨gb307, 1, none⟩ (.int .i64 t314)).heap[gb299]? = some (.cells #[.int .i64 0, .int .i64 0] 24 (0, 0))) := ⟨bk1 BK299 NB299_307⟩
     have n2_ : Aside0 (((w139.setCell ⟨gb307, 0, none⟩ (.int .i64 t300)).setCell ⟨gb307, 1, none⟩ (.int .i64 t314)).heap[gb303]? = some (.cells #[.int .i64 t300, .int .i64 t301] 24 (0, 0))) := ⟨bk1 BK303 NB303_307⟩
     have n3_ : Aside0 (((w139.setCell ⟨gb307, 0, none⟩ (.int .i64 t300)).setCell ⟨gb307, 1, none⟩ (.int .i64 t314)).heap[gb307]? = some (.cells #[.int .i64 t300, .int .i64 t314] 24 (0, 0))) := ⟨bkp BK307⟩
     have n4_ : Aside0 (IsS80 w0 ((w139.setCell ⟨gb307, 0, none⟩ (.int .i64 t300)).setCell ⟨gb307, 1, none⟩ (.int .i64 t314)) g s0_0 t315) := ⟨IsS80.go_ HI0⟩
     have n5_ : Aside0 (KeepBut w ((w139.setCell ⟨gb307, 0, none⟩ (.int .i64 t300)).setCell ⟨gb307, 1, none⟩ (.int .i64 t314)) g none) := ⟨hzk HK⟩
     have n6_ : Aside0 (Below w0.heap.size w0 ((w139.setCell ⟨gb307, 0, none⟩ (.int .i64 t300)).setCell ⟨gb307, 1, none⟩ (.int .i64 t314))) := ⟨hzI HB⟩
     (try clear BK298)
     (try clear BK299)
     (try clear BK303)
     (try clear BK307)
     (try clear HI0)
     (try clear HK)
     (try clear HB)
     generalize ((w139.setCell ⟨gb307, 0, none⟩ (.int .i64 t300)).setCell ⟨gb307, 1, none⟩ (.int .i64 t314)) = w142 at n0_ n1_ n2_ n3_ n4_ n5_ n6_ ⊢
     have BK298 := n0_
     have BK299 := n1_
     have BK303 := n2_
     have BK307 := n3_
     have HI0 := n4_
     have HK := n5_
     have HB := n6_
     clear n0_ n1_ n2_ n3_ n4_ n5_ n6_
     replace BK298 := Aside0.mk (blk_drew BK298.out)
     replace BK299 := Aside0.mk (blk_drew BK299.out)
     replace BK303 := Aside0.mk (blk_drew BK303.out)
     replace BK307 := Aside0.mk (blk_drew BK307.out)
     replace HI0 := Aside0.mk (IsS80.drew HI0.out)
     replace HK := Aside0.mk (keep_drew HK.out)
     replace HB := Aside0.mk (below_drew1 HB.out)
     refine start_ (n := 4) (S := fun w' => w'.cell? ⟨gb303, 0, none⟩ = some (.int .i64 t300) ∧ w'.cell? ⟨gb303, 1, none⟩ = some (.int .i64 t301) ∧ w'.cell? ⟨gb307, 0, none⟩ = some (.int .i64 t300) ∧ w'.cell? ⟨gb307, 1, none⟩ = some (.int .i64 t314)) (ds := []) #[false, false, false, false] (by kernel_rfl) rfl rfl ⟨cw0 BK303, cw1 BK303, cw0 BK307, cw1 BK307⟩ (fun hHeld => ?_)
     generalize w142.drew = w143 at BK298 BK299 BK303 BK307 HI0 HK HB hHeld ⊢
     refine take_ (i := 0) (N := some 39) (v := ?_) (a' := ?_) #[true, false, false, false] rfl rfl (by kernel_rfl) (fun _ _ _ h => h) (Or.inl ⟨by rfl, ?_⟩) hHeld ?_ ?_
     rotate_left
     ·rintro w' ⟨s0, s1, s2, s3⟩
      go_simp
      with_reducible rfl
     rotate_left
     ·simp only [Act.put, List.setIfInBounds_toArray, List.set_cons_zero, List.set_cons_succ, i64_w, i32_w]
      rfl
     refine take_ (i := 1) (N := some 40) (v := ?_) (a' := ?_) #[true, true, false, false] rfl rfl (by kernel_rfl) (fun _ _ _ h => h) (Or.inl ⟨by rfl, ?_⟩) hHeld ?_ ?_
     rotate_left
     ·rintro w' ⟨s0, s1, s2, s3⟩
      go_simp
      with_reducible rfl
     rotate_left
     ·simp only [Act.put, List.setIfInBounds_toArray, List.set_cons_zero, List.set_cons_succ, i64_w, i32_w]
      rfl
     refine one_ (i := 2) (N := none) #[true, true, true, false] rfl rfl (by kernel_rfl) (by decide) (fun K hK => ?_)
     have hs144 : w143.cell? ⟨gb298, 0, none⟩ = some (.int .i64 0) := (blk_cell BK298.out 0).trans rfl
     have hfs144 := blk_frozen BK298.out 0
     have hns144_1 := NB299_298.out
     have hns144_2 := NB303_298.out
     have hns144_3 := NB307_298.out
     have hms144_1 := NB298_299.out
     have hms144_2 := NB298_303.out
     have hms144_3 := NB298_307.out
     have hs145 : w143.cell? ⟨gb298, 1, none⟩ = some (.int .i64 0) := (blk_cell BK298.out 1).trans rfl
     have hfs145 := blk_frozen BK298.out 1
     have hns145_1 := NB299_298.out
     have hns145_2 := NB303_298.out
     have hns145_3 := NB307_298.out
     have hms145_1 := NB298_299.out
     have hms145_2 := NB298_303.out
     have hms145_3 := NB298_307.out
     refine skip_ (w1 := ?_) (by rfl) rfl ?_ ?_
     rotate_left
     ·go_simp
      rfl
     refine hK.out _ _ ⟨((cell_far (p := ⟨gb298, _, none⟩) NB303_298.out _).trans (((cell_far (p := ⟨gb298, _, none⟩) NB303_298.out _).trans (hHeld.1)))), ((cell_far (p := ⟨gb298, _, none⟩) NB303_298.out _).trans (((cell_far (p := ⟨gb298, _, none⟩) NB303_298.out _).trans (hHeld.2.1)))), ((cell_far (p := ⟨gb298, _, none⟩) NB307_298.out _).trans (((cell_far (p := ⟨gb298, _, none⟩) NB307_298.out _).trans (hHeld.2.2.1)))), ((cell_far (p := ⟨gb298, _, none⟩) NB307_298.out _).trans (((cell_far (p := ⟨gb298, _, none⟩) NB307_298.out _).trans (hHeld.2.2.2))))⟩ (fun hHeld => ?_)
     clear hK K
     refine one_ (i := 3) (N := none) #[true, true, true, true] rfl rfl (by kernel_rfl) (by decide) (fun K hK => ?_)
     have hs146 : w143.cell? ⟨gb299, 0, none⟩ = some (.int .i64 0) := (blk_cell BK299.out 0).trans rfl
     have hfs146 := blk_frozen BK299.out 0
     have hns146_0 := NB298_299.out
     have hns146_2 := NB303_299.out
     have hns146_3 := NB307_299.out
     have hms146_0 := NB299_298.out
     have hms146_2 := NB299_303.out
     have hms146_3 := NB299_307.out
     have hs147 : w143.cell? ⟨gb299, 1, none⟩ = some (.int .i64 0) := (blk_cell BK299.out 1).trans rfl
     have hfs147 := blk_frozen BK299.out 1
     have hns147_0 := NB298_299.out
     have hns147_2 := NB303_299.out
     have hns147_3 := NB307_299.out
     have hms147_0 := NB299_298.out
     have hms147_2 := NB299_303.out
     have hms147_3 := NB299_307.out
     refine skip_ (w1 := ?_) (by rfl) rfl ?_ ?_
     rotate_left
     ·go_simp
      rfl
     refine hK.out _ _ ⟨((cell_far (p := ⟨gb299, _, none⟩) NB303_299.out _).trans (((cell_far (p := ⟨gb299, _, none⟩) NB303_299.out _).trans (hHeld.1)))), ((cell_far (p := ⟨gb299, _, none⟩) NB303_299.out _).trans (((cell_far (p := ⟨gb299, _, none⟩) NB303_299.out _).trans (hHeld.2.1)))), ((cell_far (p := ⟨gb299, _, none⟩) NB307_299.out _).trans (((cell_far (p := ⟨gb299, _, none⟩) NB307_299.out _).trans (hHeld.2.2.1)))), ((cell_far (p := ⟨gb299, _, none⟩) NB307_299.out _).trans (((cell_far (p := ⟨gb299, _, none⟩) NB307_299.out _).trans (hHeld.2.2.2))))⟩ (fun hHeld => ?_)
     clear hK K
     refine done_ (by kernel_rfl) ?_
     try go_wp2
     refine bodyPost_ret (results_cc rfl _ _ gb298 gb299 24 24 #[.int .i64 t300, .int .i64 t301] #[.int .i64 t300, .int .i64 t314] (0, 0) (0, 0) _ _ rfl (bkp BK298) Try.underlying24 rfl (by kernel_rfl) rfl (bkp BK299) Try.underlying24 rfl (by kernel_rfl)) rfl ?_
     exact ⟨by first | rfl | (simp [errW_none, errW_some] <;> rfl) | (simp [*, errW_none, errW_some] <;> rfl), IsS80.go_ HI0, hzI HB, hzk HK⟩
    ·rw [if_neg c120] at H
     have c120b0 : (t308 == 3) = false := beq_eq_false_iff_ne.mpr c120
     have c120b1 : (t308 != 3) = true := bne_iff_ne.mpr c120
     simp only [Option.some.injEq, Prod.mk.injEq] at H
     obtain ⟨rfl, rfl, rfl, rfl, rfl⟩ := H
     go_enter Try.func52, Try.ntmps52
     try go_wp2_with (first | ((with_reducible refine gate_dst (N := 2) rfl ?_); refine bE 2 #[.int .i64 0, .int .i64 0] 24 ?_; intro gb298 hg w148 hbox hb; have BK298 := Aside0.mk (hbox); have GW298 := ks hg (hzk HK); have GE298 := kw HW0 hg (hzk HK); have NB0_298 := nL hg (IsS80.lt (show IsS80 w0 _ g s0_0 s0_1 from IsS80.go_ HI0)); have NB298_0 := nG hg (IsS80.lt (show IsS80 w0 _ g s0_0 s0_1 from IsS80.go_ HI0)); replace HI0 := Aside0.mk (IsS80.below (IsS80.go_ HI0) hb); replace HK := Aside0.mk (KeepBut.trans (hzk HK) (KeepBut.of_below hb g none) (.inl rfl)); replace HB := hbb (hzI HB) hb; clear hb hbox hg) | ((with_reducible refine gate_dst (N := 3) rfl ?_); refine bE 3 #[.int .i64 0, .int .i64 0] 24 ?_; intro gb299 hg w149 hbox hb; have BK299 := Aside0.mk (hbox); have GW299 := ks hg (hzk HK); have GE299 := kw HW0 hg (hzk HK); have NB298_299 := nl hg (bk BK298); have NB299_298 := ng hg (bk BK298); have NB0_299 := nL hg (IsS80.lt (show IsS80 w0 _ g s0_0 s0_1 from IsS80.go_ HI0)); have NB299_0 := nG hg (IsS80.lt (show IsS80 w0 _ g s0_0 s0_1 from IsS80.go_ HI0)); replace HI0 := Aside0.mk (IsS80.below (IsS80.go_ HI0) hb); replace BK298 := bb (bk BK298) hb; replace HK := Aside0.mk (KeepBut.trans (hzk HK) (KeepBut.of_below hb g none) (.inl rfl)); replace HB := hbb (hzI HB) hb; clear hb hbox hg) | ((with_reducible refine gate_callee (f := 42) rfl ?_); refine gL 9 Try.func42 #[.pointer (some ⟨g, 0, none⟩)] ?_; (with_reducible refine (spec_l71Spot.calls k g s0_0 s0_1 t300 t301 t302 w0 _ ?side1 ?side2 A2.out).mono ?_); (case side1 => exact IsS80.go_ HI0); (case side2 => exact hzI HB); rintro e w150 ⟨rfl, hi, hb, hk⟩; refine ⟨_, rfl, ?_⟩; replace BK298 := kb hk (bk BK298) NB298_0; replace BK299 := kb hk (bk BK299) NB299_0; replace HK := Aside0.mk (KeepBut.trans (hzk HK) hk (.inl rfl)); replace HB := Aside0.mk (hb); replace HI0 := Aside0.mk (hi); clear hi hb hk) | ((with_reducible refine gate_dst (N := 4) rfl ?_); refine bE 4 #[.int .i64 0, .int .i64 0] 24 ?_; intro gb303 hg w151 hbox hb; have BK303 := Aside0.mk (hbox); have GW303 := ks hg (hzk HK); have GE303 := kw HW0 hg (hzk HK); have NB298_303 := nl hg (bk BK298); have NB303_298 := ng hg (bk BK298); have NB299_303 := nl hg (bk BK299); have NB303_299 := ng hg (bk BK299); have NB0_303 := nL hg (IsS80.lt (show IsS80 w0 _ g s0_0 t302 from IsS80.go_ HI0)); have NB303_0 := nG hg (IsS80.lt (show IsS80 w0 _ g s0_0 t302 from IsS80.go_ HI0)); replace HI0 := Aside0.mk (IsS80.below (IsS80.go_ HI0) hb); replace BK298 := bb (bk BK298) hb; replace BK299 := bb (bk BK299) hb; replace HK := Aside0.mk (KeepBut.trans (hzk HK) (KeepBut.of_below hb g none) (.inl rfl)); replace HB := hbb (hzI HB) hb; clear hb hbox hg; have hnb152 := NB303_298.out; have hnc152 := NB298_303.out; have hnb153 := NB303_299.out; have hnc153 := NB299_303.out; have hnb154 := NB303_0.out; have hnc154 := NB0_303.out; obtain ⟨hcz155_0, hcz155_1, hfz155_0, hfz155_1⟩ := cz2 BK303) | ((with_reducible refine gate_callee (f := 42) rfl ?_); refine gL 11 Try.func42 #[.pointer (some ⟨g, 0, none⟩)] ?_; (with_reducible refine (spec_l71Spot.calls k g s0_0 t302 t304 t305 t306 w0 _ ?side1 ?side2 A3.out).mono ?_); (case side1 => exact IsS80.go_ HI0); (case side2 => exact hzI HB); rintro e w156 ⟨rfl, hi, hb, hk⟩; refine ⟨_, rfl, ?_⟩; replace BK298 := kb hk (bk1 BK298 NB298_303) NB298_0; replace BK299 := kb hk (bk1 BK299 NB299_303) NB299_0; replace BK303 := kb (o := .cells #[.int .i64 t300, .int .i64 t301] 24 (0, 0)) hk (bkp BK303) NB303_0; replace HK := Aside0.mk (KeepBut.trans (hzk HK) hk (.inl rfl)); replace HB := Aside0.mk (hb); replace HI0 := Aside0.mk (hi); clear hi hb hk) | ((with_reducible refine gate_dst (N := 5) rfl ?_); refine bE 5 #[.int .i64 0, .int .i64 0] 24 ?_; intro gb307 hg w157 hbox hb; have BK307 := Aside0.mk (hbox); have GW307 := ks hg (hzk HK); have GE307 := kw HW0 hg (hzk HK); have NB298_307 := nl hg (bk BK298); have NB307_298 := ng hg (bk BK298); have NB299_307 := nl hg (bk BK299); have NB307_299 := ng hg (bk BK299); have NB303_307 := nl hg (bk BK303); have NB307_303 := ng hg (bk BK303); have NB0_307 := nL hg (IsS80.lt (show IsS80 w0 _ g s0_0 t306 from IsS80.go_ HI0)); have NB307_0 := nG hg (IsS80.lt (show IsS80 w0 _ g s0_0 t306 from IsS80.go_ HI0)); replace HI0 := Aside0.mk (IsS80.below (IsS80.go_ HI0) hb); replace BK298 := bb (bk BK298) hb; replace BK299 := bb (bk BK299) hb; replace BK303 := bb (bk BK303) hb; replace HK := Aside0.mk (KeepBut.trans (hzk HK) (KeepBut.of_below hb g none) (.inl rfl)); replace HB := hbb (hzI HB) hb; clear hb hbox hg; have hnb158 := NB307_298.out; have hnc158 := NB298_307.out; have hnb159 := NB307_299.out; have hnc159 := NB299_307.out; have hnb160 := NB307_303.out; have hnc160 := NB303_307.out; have hnb161 := NB307_0.out; have hnc161 := NB0_307.out; obtain ⟨hcz162_0, hcz162_1, hfz162_0, hfz162_1⟩ := cz2 BK307) | ((with_reducible refine gate_callee (f := 53) rfl ?_); refine gL 13 Try.func53 #[.pointer (some ⟨g, 0, none⟩), .int .i64 8] ?_; (with_reducible refine (spec_l6Rd_pick.calls k g s0_0 t306 8 t308 t309 w0 _ ?side1 ?side2 A4.out).mono ?_); (case side1 => exact IsS80.go_ HI0); (case side2 => exact hzI HB); rintro e w163 ⟨rfl, hi, hb, hk⟩; refine ⟨_, rfl, ?_⟩; replace BK298 := kb hk (bk1 BK298 NB298_307) NB298_0; replace BK299 := kb hk (bk1 BK299 NB299_307) NB299_0; replace BK303 := kb hk (bk1 BK303 NB303_307) NB303_0; replace BK307 := kb (o := .cells #[.int .i64 t304, .int .i64 t305] 24 (0, 0)) hk (bkp BK307) NB307_0; replace HK := Aside0.mk (KeepBut.trans (hzk HK) hk (.inl rfl)); replace HB := Aside0.mk (hb); replace HI0 := Aside0.mk (hi); clear hi hb hk))
     replace BK298 := Aside0.mk (blk_drew BK298.out)
     replace BK299 := Aside0.mk (blk_drew BK299.out)
     replace BK303 := Aside0.mk (blk_drew BK303.out)
     replace BK307 := Aside0.mk (blk_drew BK307.out)
     replace HI0 := Aside0.mk (IsS80.drew HI0.out)
     replace HK := Aside0.mk (keep_drew HK.out)
     replace HB := Aside0.mk (below_drew1 HB.out)
     refine start_ (n := 4) (S := fun w' => w'.cell? ⟨gb303, 0, none⟩ = some (.int .i64 t300) ∧ w'.cell? ⟨gb303, 1, none⟩ = some (.int .i64 t301) ∧ w'.cell? ⟨gb307, 0, none⟩ = some (.int .i64 t304) ∧ w'.cell? ⟨gb307, 1, none⟩ = some (.int .i64 t305)) (ds := []) #[false, false, false, false] (by kernel_rfl) rfl rfl ⟨cw0 BK303, cw1 BK303, cw0 BK307, cw1 BK307⟩ (fun hHeld => ?_)
     generalize w163.drew = w164 at BK298 BK299 BK303 BK307 HI0 HK HB hHeld ⊢
     refine take_ (i := 0) (N := some 39) (v := ?_) (a' := ?_) #[true, false, false, false] rfl rfl (by kernel_rfl) (fun _ _ _ h => h) (Or.inl ⟨by rfl, ?_⟩) hHeld ?_ ?_
     rotate_left
     ·rintro w' ⟨s0, s1, s2, s3⟩
      go_simp
      with_reducible rfl
     rotate_left
     ·simp only [Act.put, List.setIfInBounds_toArray, List.set_cons_zero, List.set_cons_succ, i64_w, i32_w]
      rfl
     refine take_ (i := 1) (N := some 40) (v := ?_) (a' := ?_) #[true, true, false, false] rfl rfl (by kernel_rfl) (fun _ _ _ h => h) (Or.inl ⟨by rfl, ?_⟩) hHeld ?_ ?_
     rotate_left
     ·rintro w' ⟨s0, s1, s2, s3⟩
      go_simp
      with_reducible rfl
     rotate_left
     ·simp only [Act.put, List.setIfInBounds_toArray, List.set_cons_zero, List.set_cons_succ, i64_w, i32_w]
      rfl
     refine one_ (i := 2) (N := none) #[true, true, true, false] rfl rfl (by kernel_rfl) (by decide) (fun K hK => ?_)
     have hs165 : w164.cell? ⟨gb298, 0, none⟩ = some (.int .i64 0) := (blk_cell BK298.out 0).trans rfl
     have hfs165 := blk_frozen BK298.out 0
     have hns165_1 := NB299_298.out
     have hns165_2 := NB303_298.out
     have hns165_3 := NB307_298.out
     have hms165_1 := NB298_299.out
     have hms165_2 := NB298_303.out
     have hms165_3 := NB298_307.out
     have hs166 : w164.cell? ⟨gb298, 1, none⟩ = some (.int .i64 0) := (blk_cell BK298.out 1).trans rfl
     have hfs166 := blk_frozen BK298.out 1
     have hns166_1 := NB299_298.out
     have hns166_2 := NB303_298.out
     have hns166_3 := NB307_298.out
     have hms166_1 := NB298_299.out
     have hms166_2 := NB298_303.out
     have hms166_3 := NB298_307.out
     refine skip_ (w1 := ?_) (by rfl) rfl ?_ ?_
     rotate_left
     ·go_simp
      rfl
     refine hK.out _ _ ⟨((cell_far (p := ⟨gb298, _, none⟩) NB303_298.out _).trans (((cell_far (p := ⟨gb298, _, none⟩) NB303_298.out _).trans (hHeld.1)))), ((cell_far (p := ⟨gb298, _, none⟩) NB303_298.out _).trans (((cell_far (p := ⟨gb298, _, none⟩) NB303_298.out _).trans (hHeld.2.1)))), ((cell_far (p := ⟨gb298, _, none⟩) NB307_298.out _).trans (((cell_far (p := ⟨gb298, _, none⟩) NB307_298.out _).trans (hHeld.2.2.1)))), ((cell_far (p := ⟨gb298, _, none⟩) NB307_298.out _).trans (((cell_far (p := ⟨gb298, _, none⟩) NB307_298.out _).trans (hHeld.2.2.2))))⟩ (fun hHeld => ?_)
     clear hK K
     refine one_ (i := 3) (N := none) #[true, true, true, true] rfl rfl (by kernel_rfl) (by decide) (fun K hK => ?_)
     have hs167 : w164.cell? ⟨gb299, 0, none⟩ = some (.int .i64 0) := (blk_cell BK299.out 0).trans rfl
     have hfs167 := blk_frozen BK299.out 0
     have hns167_0 := NB298_299.out
     have hns167_2 := NB303_299.out
     have hns167_3 := NB307_299.out
     have hms167_0 := NB299_298.out
     have hms167_2 := NB299_303.out
     have hms167_3 := NB299_307.out
     have hs168 : w164.cell? ⟨gb299, 1, none⟩ = some (.int .i64 0) := (blk_cell BK299.out 1).trans rfl
     have hfs168 := blk_frozen BK299.out 1
     have hns168_0 := NB298_299.out
     have hns168_2 := NB303_299.out
     have hns168_3 := NB307_299.out
     have hms168_0 := NB299_298.out
     have hms168_2 := NB299_303.out
     have hms168_3 := NB299_307.out
     refine skip_ (w1 := ?_) (by rfl) rfl ?_ ?_
     rotate_left
     ·go_simp
      rfl
     refine hK.out _ _ ⟨((cell_far (p := ⟨gb299, _, none⟩) NB303_299.out _).trans (((cell_far (p := ⟨gb299, _, none⟩) NB303_299.out _).trans (hHeld.1)))), ((cell_far (p := ⟨gb299, _, none⟩) NB303_299.out _).trans (((cell_far (p := ⟨gb299, _, none⟩) NB303_299.out _).trans (hHeld.2.1)))), ((cell_far (p := ⟨gb299, _, none⟩) NB307_299.out _).trans (((cell_far (p := ⟨gb299, _, none⟩) NB307_299.out _).trans (hHeld.2.2.1)))), ((cell_far (p := ⟨gb299, _, none⟩) NB307_299.out _).trans (((cell_far (p := ⟨gb299, _, none⟩) NB307_299.out _).trans (hHeld.2.2.2))))⟩ (fun hHeld => ?_)
     clear hK K
     refine done_ (by kernel_rfl) ?_
     try go_wp2
     refine bodyPost_ret (results_cc rfl _ _ gb298 gb299 24 24 #[.int .i64 t300, .int .i64 t301] #[.int .i64 t304, .int .i64 t305] (0, 0) (0, 0) _ _ rfl (bkp BK298) Try.underlying24 rfl (by kernel_rfl) rfl (bkp BK299) Try.underlying24 rfl (by kernel_rfl)) rfl ?_
     exact ⟨by first | rfl | (simp [errW_none, errW_some] <;> rfl) | (simp [*, errW_none, errW_some] <;> rfl), IsS80.go_ HI0, hzI HB, hzk HK⟩


end Go.Proofs.Ytmcippkpgmehdaa.M
