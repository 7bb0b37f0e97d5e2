import Derived.Test.YtmcippkpgmehdaaM0
import Derived.Test.YtmcippkpgmehdaaDa
import Derived.Test.YtmcippkpgmehdaaDb
import Derived.Test.YtmcippkpgmehdaaDc
namespace Go.Proofs.Ytmcippkpgmehdaa.M
open Go.RowKit Go.Proofs.YtmcippkpgmehdaaW.PrintWords Go.Proofs.YtmcippkpgmehdaaW.PrintLast Go.Proofs.YtmcippkpgmehdaaW.PrintMore
attribute [local go_sem] max2_int min2_int max_two min_two max_three min_three max_four min_four
attribute [local go_sem high] eqA42 eqA29 eqA24
attribute [local go_sem] fld42_0 fld42_1 fld29_0 fld29_1 fld24_0 fld24_1 fld38_0 fld38_1 fld88_0 fld88_1 fld88_2 fld88_3 fld88_4
set_option linter.unusedVariables false
set_option linter.unusedSimpArgs false

/-! ### spec_DrawSpotNear: function 34 -/
def spec_DrawSpotNear.f (k : Nat) (l0 : List Int) : Option (Int × Int × Int × Int × Int × Int) := (spec_l6Open.f l0).bind fun bt469 => ((spec_l71Spots.f k bt469.1 bt469.2).bind fun bt472 => ((spec_l71Spot.f k bt469.1 bt472.2.2.2.2).bind fun bt479 => (some (bt479.1, bt479.2.1, bt472.1, bt472.2.1, bt472.2.2.1, bt472.2.2.2.1))))
set_option maxHeartbeats 8000000 in
set_option maxRecDepth 100000 in
theorem spec_DrawSpotNear.calls (k : Nat) (A0 : Option Addr) (c0 : Nat) (l0 : List Int) (r1 : Int) (r2 : Int) (r3 : Int) (r4 : Int) (r5 : Int) (r6 : Int) (w : World) (hr0 : Kd.C (Kd.int .u8) w A0 l0.length l0) (hc0 : l0.length ≤ c0) (h : spec_DrawSpotNear.f k l0 = some (r1, r2, r3, r4, r5, r6)) :
  Calls Try.prog 34 #[.slice A0 l0.length c0] w fun e w' => e = .returned (.tuple #[.agg #[.int .i64 r1, .int .i64 r2], .agg #[.int .i64 r3, .int .i64 r4], .agg #[.int .i64 r5, .int .i64 r6]]) ∧ Below w.heap.size w w' := by
 have hu24 := Try.underlying24
 have HR0 := Aside0.mk hr0
 have HC0 := Aside0.mk hc0
 clear hr0 hc0
 have HB := Aside0.mk (Below.refl w.heap.size w)
 have H : ((spec_l6Open.f l0).bind fun bt469 => ((spec_l71Spots.f k bt469.1 bt469.2).bind fun bt472 => ((spec_l71Spot.f k bt469.1 bt472.2.2.2.2).bind fun bt479 => (some (bt479.1, bt479.2.1, bt472.1, bt472.2.1, bt472.2.2.1, bt472.2.2.2.1))))) = some (r1, r2, r3, r4, r5, r6) := h
 clear h
 replace H := Option.bind_eq_some_iff.mp H
 obtain ⟨⟨t469, t470⟩, A20, H⟩ := H
 try dsimp only at H
 have A2 := Aside0.mk A20
 clear A20
 replace H := Option.bind_eq_some_iff.mp H
 obtain ⟨⟨t472, t473, t474, t475, t476⟩, A30, H⟩ := H
 try dsimp only at H
 have A3 := Aside0.mk A30
 clear A30
 replace H := Option.bind_eq_some_iff.mp H
 obtain ⟨⟨t479, t480, t481⟩, A40, H⟩ := H
 try dsimp only at H
 have A4 := Aside0.mk A40
 clear A40
 simp only [Option.some.injEq, Prod.mk.injEq] at H
 obtain ⟨rfl, rfl, rfl, rfl, rfl, rfl⟩ := H
 go_enter Try.func34, Try.ntmps34
 try go_wp2_with (first | ((with_reducible refine gate_dst (N := 2) rfl ?_); refine bE 2 #[.int .i64 0, .int .i64 0] 24 ?_; intro gb466 hg w5 hbox hb; have BK466 := Aside0.mk (hbox); have GE466 := gw hg (hz0 HB); replace HB := hbb (hz0 HB) hb; clear hb hbox hg) | ((with_reducible refine gate_dst (N := 3) rfl ?_); refine bE 3 #[.int .i64 0, .int .i64 0] 24 ?_; intro gb467 hg w6 hbox hb; have BK467 := Aside0.mk (hbox); have GE467 := gw hg (hzs HB); have NB466_467 := nl hg (bk BK466); have NB467_466 := ng hg (bk BK466); replace BK466 := bb (bk BK466) hb; replace HB := hbb (hzs HB) hb; clear hb hbox hg) | ((with_reducible refine gate_dst (N := 4) rfl ?_); refine bE 4 #[.int .i64 0, .int .i64 0] 24 ?_; intro gb468 hg w7 hbox hb; have BK468 := Aside0.mk (hbox); have GE468 := gw hg (hzs HB); have NB466_468 := nl hg (bk BK466); have NB468_466 := ng hg (bk BK466); have NB467_468 := nl hg (bk BK467); have NB468_467 := ng hg (bk BK467); replace BK466 := bb (bk BK466) hb; replace BK467 := bb (bk BK467) hb; replace HB := hbb (hzs HB) hb; clear hb hbox hg) | ((with_reducible refine gate_callee (f := 43) rfl ?_); refine gL 9 Try.func43 #[.slice A0 l0.length c0] ?_; (with_reducible refine (spec_l6Open.calls _ _ l0 t469 t470 w _ ?side1 ?side2 ?side3 A2.out).mono ?_); (case side1 => exact hzs HB); (case side2 => exact HR0.out); (case side3 => exact HC0.out); rintro e w8 ⟨g471, rfl, hi, hb, hb2⟩; refine ⟨_, rfl, ?_⟩; have HI471 := Aside0.mk (hi); have NB471_466 := Aside0.mk (IsS80.ne_blk hi (blk_below (g := gb466) (o := .cells #[.int .i64 0, .int .i64 0] 24 (0, 0)) (bk BK466) hb2) (by decide)); have NB466_471 := Aside0.mk (Ne.symm (IsS80.ne_blk hi (blk_below (g := gb466) (o := .cells #[.int .i64 0, .int .i64 0] 24 (0, 0)) (bk BK466) hb2) (by decide))); have NB471_467 := Aside0.mk (IsS80.ne_blk hi (blk_below (g := gb467) (o := .cells #[.int .i64 0, .int .i64 0] 24 (0, 0)) (bk BK467) hb2) (by decide)); have NB467_471 := Aside0.mk (Ne.symm (IsS80.ne_blk hi (blk_below (g := gb467) (o := .cells #[.int .i64 0, .int .i64 0] 24 (0, 0)) (bk BK467) hb2) (by decide))); have NB471_468 := Aside0.mk (IsS80.ne_blk hi (blk_below (g := gb468) (o := .cells #[.int .i64 0, .int .i64 0] 24 (0, 0)) (bk BK468) hb2) (by decide)); have NB468_471 := Aside0.mk (Ne.symm (IsS80.ne_blk hi (blk_below (g := gb468) (o := .cells #[.int .i64 0, .int .i64 0] 24 (0, 0)) (bk BK468) hb2) (by decide))); replace BK466 := Aside0.mk (blk_below (g := gb466) (o := .cells #[.int .i64 0, .int .i64 0] 24 (0, 0)) (bk BK466) hb2); replace BK467 := Aside0.mk (blk_below (g := gb467) (o := .cells #[.int .i64 0, .int .i64 0] 24 (0, 0)) (bk BK467) hb2); replace BK468 := Aside0.mk (blk_below (g := gb468) (o := .cells #[.int .i64 0, .int .i64 0] 24 (0, 0)) (bk BK468) hb2); replace HB := Aside0.mk (hb); (try clear hb); (try clear hb2); (try clear hk); (try clear hi)) | ((with_reducible refine gate_callee (f := 52) rfl ?_); refine gL 12 Try.func52 #[.pointer (some ⟨g471, 0, none⟩)] ?_; (with_reducible refine (spec_l71Spots.calls k g471 t469 t470 t472 t473 t474 t475 t476 w _ ?side1 ?side2 A3.out).mono ?_); (case side1 => exact IsS80.go_ HI471); (case side2 => exact hzI HB); rintro e w9 ⟨rfl, hi, hb, hk⟩; refine ⟨_, rfl, ?_⟩; replace BK466 := kb hk (bk BK466) NB466_471; replace BK467 := kb hk (bk BK467) NB467_471; replace BK468 := kb hk (bk BK468) NB468_471; replace HB := Aside0.mk (hb); replace HI471 := Aside0.mk (hi); clear hi hb hk) | ((with_reducible refine gate_dst (N := 6) rfl ?_); refine bE 6 #[.int .i64 0, .int .i64 0] 24 ?_; intro gb477 hg w10 hbox hb; have BK477 := Aside0.mk (hbox); have GE477 := gw hg (hzI HB); have NB466_477 := nl hg (bk BK466); have NB477_466 := ng hg (bk BK466); have NB467_477 := nl hg (bk BK467); have NB477_467 := ng hg (bk BK467); have NB468_477 := nl hg (bk BK468); have NB477_468 := ng hg (bk BK468); have NB471_477 := nL hg (IsS80.lt (show IsS80 w _ g471 t469 t476 from IsS80.go_ HI471)); have NB477_471 := nG hg (IsS80.lt (show IsS80 w _ g471 t469 t476 from IsS80.go_ HI471)); replace BK466 := bb (bk BK466) hb; replace BK467 := bb (bk BK467) hb; replace BK468 := bb (bk BK468) hb; replace HI471 := Aside0.mk (IsS80.below (IsS80.go_ HI471) hb); replace HB := hbb (hzI HB) hb; clear hb hbox hg) | ((with_reducible refine gate_dst (N := 7) rfl ?_); refine bE 7 #[.int .i64 0, .int .i64 0] 24 ?_; intro gb478 hg w11 hbox hb; have BK478 := Aside0.mk (hbox); have GE478 := gw hg (hzI HB); have NB466_478 := nl hg (bk BK466); have NB478_466 := ng hg (bk BK466); have NB467_478 := nl hg (bk BK467); have NB478_467 := ng hg (bk BK467); have NB468_478 := nl hg (bk BK468); have NB478_468 := ng hg (bk BK468); have NB477_478 := nl hg (bk BK477); have NB478_477 := ng hg (bk BK477); have NB471_478 := nL hg (IsS80.lt (show IsS80 w _ g471 t469 t476 from IsS80.go_ HI471)); have NB478_471 := nG hg (IsS80.lt (show IsS80 w _ g471 t469 t476 from IsS80.go_ HI471)); replace BK466 := bb (bk BK466) hb; replace BK467 := bb (bk BK467) hb; replace BK468 := bb (bk BK468) hb; replace HI471 := Aside0.mk (IsS80.below (IsS80.go_ HI471) hb); replace BK477 := bb (bk BK477) hb; replace HB := hbb (hzI HB) hb; clear hb hbox hg; have hnb12 := NB477_466.out; have hnc12 := NB466_477.out; have hnb13 := NB477_467.out; have hnc13 := NB467_477.out; have hnb14 := NB477_468.out; have hnc14 := NB468_477.out; have hnb15 := NB477_478.out; have hnc15 := NB478_477.out; have hnb16 := NB477_471.out; have hnc16 := NB471_477.out; obtain ⟨hcz17_0, hcz17_1, hfz17_0, hfz17_1⟩ := cz2 BK477; have hnb18 := NB478_466.out; have hnc18 := NB466_478.out; have hnb19 := NB478_467.out; have hnc19 := NB467_478.out; have hnb20 := NB478_468.out; have hnc20 := NB468_478.out; have hnb21 := NB478_471.out; have hnc21 := NB471_478.out; obtain ⟨hcz22_0, hcz22_1, hfz22_0, hfz22_1⟩ := cz2 BK478))
 have n0_ : Aside0 (((((w11.setCell ⟨gb477, 0, none⟩ (.int .i64 t472)).setCell ⟨gb477, 1, none⟩ (.int .i64 t473)).setCell ⟨gb478, 0, none⟩ (.int .i64 t474)).setCell ⟨gb478, 1, none⟩ (.int .i64 t475)).heap[gb466]? = some (.cells #[.int .i64 0, .int .i64 0] 24 (0, 0))) := ⟨bk2 BK466 NB466_478 NB466_477⟩
 have n1_ : Aside0 (((((w11.setCell ⟨gb477, 0, none⟩ (.int .i64 t472)).setCell ⟨gb477, 1, none⟩ (.int .i64 t473)).setCell ⟨gb478, 0, none⟩ (.int .i64 t474)).setCell ⟨gb478, 1, none⟩ (.int .i64 t475)).heap[gb467]? = some (.cells #[.int .i64 0, .int .i64 0] 24 (0, 0))) := ⟨bk2 BK467 NB467_478 NB467_477⟩
 have n2_ : Aside0 (((((w11.setCell ⟨gb477, 0, none⟩ (.int .i64 t472)).setCell ⟨gb477, 1, none⟩ (.int .i64 t473)).setCell ⟨gb478, 0, none⟩ (.int .i64 t474)).setCell ⟨gb478, 1, none⟩ (.int .i64 t475)).heap[gb468]? = some (.cells #[.int .i64 0, .int .i64 0] 24 (0, 0))) := ⟨bk2 BK468 NB468_478 NB468_477⟩
 have n3_ : Aside0 (((((w11.setCell ⟨gb477, 0, none⟩ (.int .i64 t472)).setCell ⟨gb477, 1, none⟩ (.int .i64 t473)).setCell ⟨gb478, 0, none⟩ (.int .i64 t474)).setCell ⟨gb478, 1, none⟩ (.int .i64 t475)).heap[gb477]? = some (.cells #[.int .i64 t472, .int .i64 t473] 24 (0, 0))) := ⟨bkp BK477⟩
 have n4_ : Aside0 (((((w11.setCell ⟨gb477, 0, none⟩ (.int .i64 t472)).setCell ⟨gb477, 1, none⟩ (.int .i64 t473)).setCell ⟨gb478, 0, none⟩ (.int .i64 t474)).setCell ⟨gb478, 1, none⟩ (.int .i64 t475)).heap[gb478]? = some (.cells #[.int .i64 t474, .int .i64 t475] 24 (0, 0))) := ⟨bkp BK478⟩
 have n5_ : Aside0 (IsS80 w ((((w11.setCell ⟨gb477, 0, none⟩ (.int .i64 t472)).setCell ⟨gb477, 1, none⟩ (.int .i64 t473)).setCell ⟨gb478, 0, none⟩ (.int .i64 t474)).setCell ⟨gb478, 1, none⟩ (.int .i64 t475)) g471 t469 t476) := ⟨IsS80.go_ HI471⟩
 have n6_ : Aside0 (Below w.heap.size w ((((w11.setCell ⟨gb477, 0, none⟩ (.int .i64 t472)).setCell ⟨gb477, 1, none⟩ (.int .i64 t473)).setCell ⟨gb478, 0, none⟩ (.int .i64 t474)).setCell ⟨gb478, 1, none⟩ (.int .i64 t475))) := ⟨hzI HB⟩
 (try clear BK466)
 (try clear BK467)
 (try clear BK468)
 (try clear BK477)
 (try clear BK478)
 (try clear HI471)
 (try clear HB)
 generalize ((((w11.setCell ⟨gb477, 0, none⟩ (.int .i64 t472)).setCell ⟨gb477, 1, none⟩ (.int .i64 t473)).setCell ⟨gb478, 0, none⟩ (.int .i64 t474)).setCell ⟨gb478, 1, none⟩ (.int .i64 t475)) = w23 at n0_ n1_ n2_ n3_ n4_ n5_ n6_ ⊢
 have BK466 := n0_
 have BK467 := n1_
 have BK468 := n2_
 have BK477 := n3_
 have BK478 := n4_
 have HI471 := n5_
 have HB := n6_
 clear n0_ n1_ n2_ n3_ n4_ n5_ n6_
 replace BK466 := Aside0.mk (blk_drew BK466.out)
 replace BK467 := Aside0.mk (blk_drew BK467.out)
 replace BK468 := Aside0.mk (blk_drew BK468.out)
 replace BK477 := Aside0.mk (blk_drew BK477.out)
 replace BK478 := Aside0.mk (blk_drew BK478.out)
 replace HI471 := Aside0.mk (IsS80.drew HI471.out)
 replace HB := Aside0.mk (below_drew1 HB.out)
 refine start_ (n := 7) (S := fun w' => w'.cell? ⟨gb477, 0, none⟩ = some (.int .i64 t472) ∧ w'.cell? ⟨gb477, 1, none⟩ = some (.int .i64 t473) ∧ w'.cell? ⟨gb478, 0, none⟩ = some (.int .i64 t474) ∧ w'.cell? ⟨gb478, 1, none⟩ = some (.int .i64 t475)) (ds := []) #[false, false, false, false, false, false, false] (by kernel_rfl) rfl rfl ⟨cw0 BK477, cw1 BK477, cw0 BK478, cw1 BK478⟩ (fun hHeld => ?_)
 generalize w23.drew = w24 at BK466 BK467 BK468 BK477 BK478 HI471 HB hHeld ⊢
 refine pure_ (i := 0) (N := some 15) (v := ?_) (a' := ?_) #[true, false, false, false, false, false, false] rfl rfl (by kernel_rfl) (fun _ _ _ h => h) (Or.inl ⟨by rfl, ?_⟩) ?_ ?_
 rotate_left
 ·intro w'
  go_simp
  with_reducible rfl
 rotate_left
 ·simp only [Act.put, List.setIfInBounds_toArray, List.set_cons_zero, List.set_cons_succ, i64_w, i32_w]
  rfl
 refine take_ (i := 2) (N := some 17) (v := ?_) (a' := ?_) #[true, false, true, false, false, false, false] rfl rfl (by kernel_rfl) (fun _ _ _ h => h) (Or.inl ⟨by rfl, ?_⟩) hHeld ?_ ?_
 rotate_left
 ·rintro w' ⟨s0, s1, s2, s3⟩
  go_simp
  with_reducible rfl
 rotate_left
 ·simp only [Act.put, List.setIfInBounds_toArray, List.set_cons_zero, List.set_cons_succ, i64_w, i32_w]
  rfl
 refine take_ (i := 3) (N := some 18) (v := ?_) (a' := ?_) #[true, false, true, true, false, false, false] rfl rfl (by kernel_rfl) (fun _ _ _ h => h) (Or.inl ⟨by rfl, ?_⟩) hHeld ?_ ?_
 rotate_left
 ·rintro w' ⟨s0, s1, s2, s3⟩
  go_simp
  with_reducible rfl
 rotate_left
 ·simp only [Act.put, List.setIfInBounds_toArray, List.set_cons_zero, List.set_cons_succ, i64_w, i32_w]
  rfl
 refine one_ (i := 1) (N := some 16) #[true, true, true, true, false, false, false] rfl rfl (by kernel_rfl) (by decide) (fun K hK => ?_)
 refine gS Try.func42 #[.pointer (some ⟨g471, 0, none⟩)] ?_
 with_reducible refine (spec_l71Spot.calls k g471 t469 t476 t479 t480 t481 w _ ?side1 ?side2 A4.out).mono ?_
 (case side1 => exact IsS80.go_ HI471)
 (case side2 => exact hzI HB)
 rintro e w25 ⟨rfl, hi, hb, hk⟩
 refine ⟨_, rfl, ?_⟩
 replace BK466 := kb hk (bk BK466) NB466_471
 replace BK467 := kb hk (bk BK467) NB467_471
 replace BK468 := kb hk (bk BK468) NB468_471
 replace BK477 := kb hk (bk BK477) NB477_471
 replace BK478 := kb hk (bk BK478) NB478_471
 replace HB := Aside0.mk (hb)
 replace HI471 := Aside0.mk (hi)
 clear hi hb hk
 refine hK.out _ _ ⟨cw0 BK477, cw1 BK477, cw0 BK478, cw1 BK478⟩ (fun hHeld => ?_)
 clear hK K
 refine nP ?_
 refine one_ (i := 4) (N := none) #[true, true, true, true, true, false, false] rfl rfl (by kernel_rfl) (by decide) (fun K hK => ?_)
 have hs26 : w25.cell? ⟨gb466, 0, none⟩ = some (.int .i64 0) := (blk_cell BK466.out 0).trans rfl
 have hfs26 := blk_frozen BK466.out 0
 have hns26_1 := NB467_466.out
 have hns26_2 := NB468_466.out
 have hns26_3 := NB477_466.out
 have hns26_4 := NB478_466.out
 have hms26_1 := NB466_467.out
 have hms26_2 := NB466_468.out
 have hms26_3 := NB466_477.out
 have hms26_4 := NB466_478.out
 have hs27 : w25.cell? ⟨gb466, 1, none⟩ = some (.int .i64 0) := (blk_cell BK466.out 1).trans rfl
 have hfs27 := blk_frozen BK466.out 1
 have hns27_1 := NB467_466.out
 have hns27_2 := NB468_466.out
 have hns27_3 := NB477_466.out
 have hns27_4 := NB478_466.out
 have hms27_1 := NB466_467.out
 have hms27_2 := NB466_468.out
 have hms27_3 := NB466_477.out
 have hms27_4 := NB466_478.out
 refine skip_ (w1 := ?_) (by rfl) rfl ?_ ?_
 rotate_left
 ·go_simp
  rfl
 refine hK.out _ _ ⟨((cell_far (p := ⟨gb466, _, none⟩) NB477_466.out _).trans (((cell_far (p := ⟨gb466, _, none⟩) NB477_466.out _).trans (hHeld.1)))), ((cell_far (p := ⟨gb466, _, none⟩) NB477_466.out _).trans (((cell_far (p := ⟨gb466, _, none⟩) NB477_466.out _).trans (hHeld.2.1)))), ((cell_far (p := ⟨gb466, _, none⟩) NB478_466.out _).trans (((cell_far (p := ⟨gb466, _, none⟩) NB478_466.out _).trans (hHeld.2.2.1)))), ((cell_far (p := ⟨gb466, _, none⟩) NB478_466.out _).trans (((cell_far (p := ⟨gb466, _, none⟩) NB478_466.out _).trans (hHeld.2.2.2))))⟩ (fun hHeld => ?_)
 clear hK K
 refine one_ (i := 5) (N := none) #[true, true, true, true, true, true, false] rfl rfl (by kernel_rfl) (by decide) (fun K hK => ?_)
 have hs28 : w25.cell? ⟨gb467, 0, none⟩ = some (.int .i64 0) := (blk_cell BK467.out 0).trans rfl
 have hfs28 := blk_frozen BK467.out 0
 have hns28_0 := NB466_467.out
 have hns28_2 := NB468_467.out
 have hns28_3 := NB477_467.out
 have hns28_4 := NB478_467.out
 have hms28_0 := NB467_466.out
 have hms28_2 := NB467_468.out
 have hms28_3 := NB467_477.out
 have hms28_4 := NB467_478.out
 have hs29 : w25.cell? ⟨gb467, 1, none⟩ = some (.int .i64 0) := (blk_cell BK467.out 1).trans rfl
 have hfs29 := blk_frozen BK467.out 1
 have hns29_0 := NB466_467.out
 have hns29_2 := NB468_467.out
 have hns29_3 := NB477_467.out
 have hns29_4 := NB478_467.out
 have hms29_0 := NB467_466.out
 have hms29_2 := NB467_468.out
 have hms29_3 := NB467_477.out
 have hms29_4 := NB467_478.out
 refine skip_ (w1 := ?_) (by rfl) rfl ?_ ?_
 rotate_left
 ·go_simp
  rfl
 refine hK.out _ _ ⟨((cell_far (p := ⟨gb467, _, none⟩) NB477_467.out _).trans (((cell_far (p := ⟨gb467, _, none⟩) NB477_467.out _).trans (hHeld.1)))), ((cell_far (p := ⟨gb467, _, none⟩) NB477_467.out _).trans (((cell_far (p := ⟨gb467, _, none⟩) NB477_467.out _).trans (hHeld.2.1)))), ((cell_far (p := ⟨gb467, _, none⟩) NB478_467.out _).trans (((cell_far (p := ⟨gb467, _, none⟩) NB478_467.out _).trans (hHeld.2.2.1)))), ((cell_far (p := ⟨gb467, _, none⟩) NB478_467.out _).trans (((cell_far (p := ⟨gb467, _, none⟩) NB478_467.out _).trans (hHeld.2.2.2))))⟩ (fun hHeld => ?_)
 clear hK K
 refine one_ (i := 6) (N := none) #[true, true, true, true, true, true, true] rfl rfl (by kernel_rfl) (by decide) (fun K hK => ?_)
 have hs30 : w25.cell? ⟨gb468, 0, none⟩ = some (.int .i64 0) := (blk_cell BK468.out 0).trans rfl
 have hfs30 := blk_frozen BK468.out 0
 have hns30_0 := NB466_468.out
 have hns30_1 := NB467_468.out
 have hns30_3 := NB477_468.out
 have hns30_4 := NB478_468.out
 have hms30_0 := NB468_466.out
 have hms30_1 := NB468_467.out
 have hms30_3 := NB468_477.out
 have hms30_4 := NB468_478.out
 have hs31 : w25.cell? ⟨gb468, 1, none⟩ = some (.int .i64 0) := (blk_cell BK468.out 1).trans rfl
 have hfs31 := blk_frozen BK468.out 1
 have hns31_0 := NB466_468.out
 have hns31_1 := NB467_468.out
 have hns31_3 := NB477_468.out
 have hns31_4 := NB478_468.out
 have hms31_0 := NB468_466.out
 have hms31_1 := NB468_467.out
 have hms31_3 := NB468_477.out
 have hms31_4 := NB468_478.out
 refine skip_ (w1 := ?_) (by rfl) rfl ?_ ?_
 rotate_left
 ·go_simp
  rfl
 refine hK.out _ _ ⟨((cell_far (p := ⟨gb468, _, none⟩) NB477_468.out _).trans (((cell_far (p := ⟨gb468, _, none⟩) NB477_468.out _).trans (hHeld.1)))), ((cell_far (p := ⟨gb468, _, none⟩) NB477_468.out _).trans (((cell_far (p := ⟨gb468, _, none⟩) NB477_468.out _).trans (hHeld.2.1)))), ((cell_far (p := ⟨gb468, _, none⟩) NB478_468.out _).trans (((cell_far (p := ⟨gb468, _, none⟩) NB478_468.out _).trans (hHeld.2.2.1)))), ((cell_far (p := ⟨gb468, _, none⟩) NB478_468.out _).trans (((cell_far (p := ⟨gb468, _, none⟩) NB478_468.out _).trans (hHeld.2.2.2))))⟩ (fun hHeld => ?_)
 clear hK K
 refine done_ (by kernel_rfl) ?_
 try go_wp2
 refine bodyPost_ret (results_list (rs := [.cell 2 24, .cell 3 24, .cell 4 24]) rfl (by simp) (.cell gb466 24 #[.int .i64 t479, .int .i64 t480] (0, 0) _ rfl (bkp BK466) Try.underlying24 rfl (by kernel_rfl) (.cell gb467 24 #[.int .i64 t472, .int .i64 t473] (0, 0) _ rfl (bkp BK467) Try.underlying24 rfl (by kernel_rfl) (.cell gb468 24 #[.int .i64 t474, .int .i64 t475] (0, 0) _ rfl (bkp BK468) Try.underlying24 rfl (by kernel_rfl) .nil)))) rfl ?_
 exact ⟨by first | rfl | (simp [errW_none, errW_some] <;> rfl) | (simp [*, errW_none, errW_some] <;> rfl), hzI HB⟩


end Go.Proofs.Ytmcippkpgmehdaa.M
