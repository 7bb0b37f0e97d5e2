import Derived.Test.YtmcippkpgmehdaaM0
import Derived.Test.YtmcippkpgmehdaaDa
import Derived.Test.YtmcippkpgmehdaaDc
namespace Go.Proofs.Ytmcippkpgmehdaa.M
open Go.RowKit Go.Proofs.YtmcippkpgmehdaaW.PrintWords Go.Proofs.YtmcippkpgmehdaaW.PrintLast Go.Proofs.YtmcippkpgmehdaaW.PrintMore
attribute [local go_sem] max2_int min2_int max_two min_two max_three min_three max_four min_four
attribute [local go_sem high] eqA42 eqA29 eqA24
attribute [local go_sem] fld42_0 fld42_1 fld29_0 fld29_1 fld24_0 fld24_1 fld38_0 fld38_1 fld88_0 fld88_1 fld88_2 fld88_3 fld88_4
set_option linter.unusedVariables false
set_option linter.unusedSimpArgs false

/-! ### spec_DrawSpotSame: function 23 -/
def spec_DrawSpotSame.f (k : Nat) (l0 : List Int) : Option (Int × Int × Int × Int) := (spec_l6Open.f l0).bind fun bt311 => ((spec_l71Spots.f k bt311.1 bt311.2).bind fun bt314 => ((spec_l6Rd_pick.f k bt311.1 bt314.2.2.2.2 3).bind fun bt321 => (if bt321.1 = 0 then ((some (([32400000, (-32400000)] : List Int) : List Int)).bind fun y323 => ((spec_l6Rd_pick.f k bt311.1 bt321.2 2).bind fun bt326 => (if 0 ≤ bt326.1 then (if bt326.1 < (y323.length : Int) then (some (32400000, bt314.2.1, rd y323 bt326.1, bt314.2.2.2.1)) else (none)) else (none)))) else (some (bt314.1, bt314.2.1, bt314.2.2.1, bt314.2.2.2.1)))))
set_option maxHeartbeats 8000000 in
set_option maxRecDepth 100000 in
theorem spec_DrawSpotSame.calls (k : Nat) (A0 : Option Addr) (c0 : Nat) (l0 : List Int) (r1 : Int) (r2 : Int) (r3 : Int) (r4 : Int) (w : World) (hr0 : Kd.C (Kd.int .u8) w A0 l0.length l0) (hc0 : l0.length ≤ c0) (h : spec_DrawSpotSame.f k l0 = some (r1, r2, r3, r4)) :
  Calls Try.prog 23 #[.slice A0 l0.length c0] w fun e w' => e = .returned (.tuple #[.agg #[.int .i64 r1, .int .i64 r2], .agg #[.int .i64 r3, .int .i64 r4]]) ∧ Below w.heap.size w w' := by
 have hu24 := Try.underlying24
 have HR0 := Aside0.mk hr0
 have HC0 := Aside0.mk hc0
 clear hr0 hc0
 have HB := Aside0.mk (Below.refl w.heap.size w)
 have H : ((spec_l6Open.f l0).bind fun bt311 => ((spec_l71Spots.f k bt311.1 bt311.2).bind fun bt314 => ((spec_l6Rd_pick.f k bt311.1 bt314.2.2.2.2 3).bind fun bt321 => (if bt321.1 = 0 then ((some (([32400000, (-32400000)] : List Int) : List Int)).bind fun y323 => ((spec_l6Rd_pick.f k bt311.1 bt321.2 2).bind fun bt326 => (if 0 ≤ bt326.1 then (if bt326.1 < (y323.length : Int) then (some (32400000, bt314.2.1, rd y323 bt326.1, bt314.2.2.2.1)) else (none)) else (none)))) else (some (bt314.1, bt314.2.1, bt314.2.2.1, bt314.2.2.2.1)))))) = some (r1, r2, r3, r4) := h
 clear h
 replace H := Option.bind_eq_some_iff.mp H
 obtain ⟨⟨t311, t312⟩, A20, H⟩ := H
 replace H : ((spec_l71Spots.f k t311 t312).bind fun bt314 => ((spec_l6Rd_pick.f k t311 bt314.2.2.2.2 3).bind fun bt321 => (if bt321.1 = 0 then ((some (([32400000, (-32400000)] : List Int) : List Int)).bind fun y323 => ((spec_l6Rd_pick.f k t311 bt321.2 2).bind fun bt326 => (if 0 ≤ bt326.1 then (if bt326.1 < (y323.length : Int) then (some (32400000, bt314.2.1, rd y323 bt326.1, bt314.2.2.2.1)) else (none)) else (none)))) else (some (bt314.1, bt314.2.1, bt314.2.2.1, bt314.2.2.2.1))))) = some (r1, r2, r3, r4) := H
 have A2 := Aside0.mk A20
 clear A20
 replace H := Option.bind_eq_some_iff.mp H
 obtain ⟨⟨t314, t315, t316, t317, t318⟩, A30, H⟩ := H
 replace H : ((spec_l6Rd_pick.f k t311 t318 3).bind fun bt321 => (if bt321.1 = 0 then ((some (([32400000, (-32400000)] : List Int) : List Int)).bind fun y323 => ((spec_l6Rd_pick.f k t311 bt321.2 2).bind fun bt326 => (if 0 ≤ bt326.1 then (if bt326.1 < (y323.length : Int) then (some (32400000, t315, rd y323 bt326.1, t317)) else (none)) else (none)))) else (some (t314, t315, t316, t317)))) = some (r1, r2, r3, r4) := H
 have A3 := Aside0.mk A30
 clear A30
 replace H := Option.bind_eq_some_iff.mp H
 obtain ⟨⟨t321, t322⟩, A40, H⟩ := H
 replace H : (if t321 = 0 then ((some (([32400000, (-32400000)] : List Int) : List Int)).bind fun y323 => ((spec_l6Rd_pick.f k t311 t322 2).bind fun bt326 => (if 0 ≤ bt326.1 then (if bt326.1 < (y323.length : Int) then (some (32400000, t315, rd y323 bt326.1, t317)) else (none)) else (none)))) else (some (t314, t315, t316, t317))) = some (r1, r2, r3, r4) := H
 have A4 := Aside0.mk A40
 clear A40
 by_cases c5 : t321 = 0
 ·rw [if_pos c5] at H
  have c5b0 : (t321 == 0) = true := beq_iff_eq.mpr c5
  have c5b1 : (t321 != 0) = false := bne_eq_false_iff_eq.mpr c5
  clear c5
  obtain ⟨y323, hy323⟩ : ∃ y_ : List Int, y_ = (([32400000, (-32400000)] : List Int)) := ⟨_, rfl⟩
  replace H : ((spec_l6Rd_pick.f k t311 t322 2).bind fun bt326 => (if 0 ≤ bt326.1 then (if bt326.1 < (y323.length : Int) then (some (32400000, t315, rd y323 bt326.1, t317)) else (none)) else (none))) = some (r1, r2, r3, r4) := by first | (rw [hy323]; with_reducible exact H) | (have H2_ := (Option.bind_some _ _).symm.trans H; rw [hy323]; with_reducible exact H2_) | (have H2_ := (Option.bind_some _ _).symm.trans H; with_reducible exact H2_) | with_reducible exact H | (rw [hy323]; exact H) | exact H
  have Ny323 := Aside0.mk hy323
  clear hy323
  replace H := Option.bind_eq_some_iff.mp H
  obtain ⟨⟨t326, t327⟩, A60, H⟩ := H
  replace H : (if 0 ≤ t326 then (if t326 < (y323.length : Int) then (some (32400000, t315, rd y323 t326, t317)) else (none)) else (none)) = some (r1, r2, r3, r4) := H
  have A6 := Aside0.mk A60
  clear A60
  by_cases c7 : 0 ≤ t326
  ·rw [if_pos c7] at H
   have c7b0 : decide (0 ≤ t326) = true := decide_eq_true c7
   clear c7
   by_cases c8 : t326 < (y323.length : Int)
   ·rw [if_pos c8] at H
    have c8b0 : decide (t326 < (y323.length : Int)) = true := decide_eq_true c8
    clear c8
    simp only [Option.some.injEq, Prod.mk.injEq] at H
    obtain ⟨rfl, rfl, rfl, rfl⟩ := H
    go_enter Try.func23, Try.ntmps23
    try go_wp2_with (first | ((with_reducible refine gate_dst (N := 2) rfl ?_); refine bE 2 #[.int .i64 0, .int .i64 0] 24 ?_; intro gb309 hg w9 hbox hb; have BK309 := Aside0.mk (hbox); have GE309 := gw hg (h0_ HB); have GW309 := GE309; replace HB := hbb (h0_ HB) hb; clear hb hbox hg) | ((with_reducible refine gate_dst (N := 3) rfl ?_); refine bE 3 #[.int .i64 0, .int .i64 0] 24 ?_; intro gb310 hg w10 hbox hb; have BK310 := Aside0.mk (hbox); have GE310 := gw hg (hs_ HB); have GW310 := GE310; have NB309_310 := nl hg (bk BK309); have NB310_309 := ng hg (bk BK309); replace BK309 := bb (bk BK309) hb; replace HB := hbb (hs_ HB) hb; clear hb hbox hg) | ((with_reducible refine gate_callee (f := 43) rfl ?_); refine gL 8 Try.func43 #[.slice A0 l0.length c0] ?_; (with_reducible refine (spec_l6Open.calls _ _ l0 t311 t312 w _ ?side1 ?side2 ?side3 A2.out).mono ?_); (case side1 => exact hs_ HB); (case side2 => exact HR0.out); (case side3 => exact HC0.out); rintro e w11 ⟨g313, rfl, hi, hb, hb2⟩; refine ⟨_, rfl, ?_⟩; have HI313 := Aside0.mk (hi); have NB313_309 := Aside0.mk (IsS80.ne_blk hi (blk_below (g := gb309) (o := .cells #[.int .i64 0, .int .i64 0] 24 (0, 0)) (bk BK309) hb2) (by decide)); have NB309_313 := Aside0.mk (Ne.symm (IsS80.ne_blk hi (blk_below (g := gb309) (o := .cells #[.int .i64 0, .int .i64 0] 24 (0, 0)) (bk BK309) hb2) (by decide))); have NB313_310 := Aside0.mk (IsS80.ne_blk hi (blk_below (g := gb310) (o := .cells #[.int .i64 0, .int .i64 0] 24 (0, 0)) (bk BK310) hb2) (by decide)); have NB310_313 := Aside0.mk (Ne.symm (IsS80.ne_blk hi (blk_below (g := gb310) (o := .cells #[.int .i64 0, .int .i64 0] 24 (0, 0)) (bk BK310) hb2) (by decide))); replace BK309 := Aside0.mk (blk_below (g := gb309) (o := .cells #[.int .i64 0, .int .i64 0] 24 (0, 0)) (bk BK309) hb2); replace BK310 := Aside0.mk (blk_below (g := gb310) (o := .cells #[.int .i64 0, .int .i64 0] 24 (0, 0)) (bk BK310) hb2); replace HB := Aside0.mk (hb); (try clear hb); (try clear hb2); (try clear hk); (try clear hi)) | ((with_reducible refine gate_callee (f := 52) rfl ?_); refine gL 11 Try.func52 #[.pointer (some ⟨g313, 0, none⟩)] ?_; (with_reducible refine (spec_l71Spots.calls k g313 t311 t312 t314 t315 t316 t317 t318 w _ ?side1 ?side2 A3.out).mono ?_); (case side1 => exact IsS80.go_ HI313); (case side2 => exact hsI_ HB); rintro e w12 ⟨rfl, hi, hb, hk⟩; refine ⟨_, rfl, ?_⟩; replace BK309 := kb hk (bk BK309) NB309_313; replace BK310 := kb hk (bk BK310) NB310_313; replace HB := Aside0.mk (hb); replace HI313 := Aside0.mk (hi); clear hi hb hk) | ((with_reducible refine gate_dst (N := 5) rfl ?_); refine bE 5 #[.int .i64 0, .int .i64 0] 24 ?_; intro gb319 hg w13 hbox hb; have BK319 := Aside0.mk (hbox); have GE319 := gw hg (hsI_ HB); have GW319 := GE319; have NB309_319 := nl hg (bk BK309); have NB319_309 := ng hg (bk BK309); have NB310_319 := nl hg (bk BK310); have NB319_310 := ng hg (bk BK310); have NB313_319 := nL hg (IsS80.lt (show IsS80 w _ g313 t311 t318 from IsS80.go_ HI313)); have NB319_313 := nG hg (IsS80.lt (show IsS80 w _ g313 t311 t318 from IsS80.go_ HI313)); replace BK309 := bb (bk BK309) hb; replace BK310 := bb (bk BK310) hb; replace HI313 := Aside0.mk (IsS80.below (IsS80.go_ HI313) hb); replace HB := hbb (hsI_ HB) hb; clear hb hbox hg) | ((with_reducible refine gate_dst (N := 6) rfl ?_); refine bE 6 #[.int .i64 0, .int .i64 0] 24 ?_; intro gb320 hg w14 hbox hb; have BK320 := Aside0.mk (hbox); have GE320 := gw hg (hsI_ HB); have GW320 := GE320; have NB309_320 := nl hg (bk BK309); have NB320_309 := ng hg (bk BK309); have NB310_320 := nl hg (bk BK310); have NB320_310 := ng hg (bk BK310); have NB319_320 := nl hg (bk BK319); have NB320_319 := ng hg (bk BK319); have NB313_320 := nL hg (IsS80.lt (show IsS80 w _ g313 t311 t318 from IsS80.go_ HI313)); have NB320_313 := nG hg (IsS80.lt (show IsS80 w _ g313 t311 t318 from IsS80.go_ HI313)); replace BK309 := bb (bk BK309) hb; replace BK310 := bb (bk BK310) hb; replace HI313 := Aside0.mk (IsS80.below (IsS80.go_ HI313) hb); replace BK319 := bb (bk BK319) hb; replace HB := hbb (hsI_ HB) hb; clear hb hbox hg; have hnb15 := NB319_309.out; have hnc15 := NB309_319.out; have hnb16 := NB319_310.out; have hnc16 := NB310_319.out; have hnb17 := NB319_320.out; have hnc17 := NB320_319.out; have hnb18 := NB319_313.out; have hnc18 := NB313_319.out; obtain ⟨hcz19_0, hcz19_1, hfz19_0, hfz19_1⟩ := cz2 BK319; have hnb20 := NB320_309.out; have hnc20 := NB309_320.out; have hnb21 := NB320_310.out; have hnc21 := NB310_320.out; have hnb22 := NB320_313.out; have hnc22 := NB313_320.out; obtain ⟨hcz23_0, hcz23_1, hfz23_0, hfz23_1⟩ := cz2 BK320) | ((with_reducible refine gate_callee (f := 53) rfl ?_); refine gL 15 Try.func53 #[.pointer (some ⟨g313, 0, none⟩), .int .i64 3] ?_; (with_reducible refine (spec_l6Rd_pick.calls k g313 t311 t318 3 t321 t322 w _ ?side1 ?side2 A4.out).mono ?_); (case side1 => exact IsS80.go_ HI313); (case side2 => exact hsI_ HB); rintro e w24 ⟨rfl, hi, hb, hk⟩; refine ⟨_, rfl, ?_⟩; replace BK309 := kb hk (bk2 BK309 NB309_320 NB309_319) NB309_313; replace BK310 := kb hk (bk2 BK310 NB310_320 NB310_319) NB310_313; replace BK319 := kb (o := .cells #[.int .i64 t314, .int .i64 t315] 24 (0, 0)) hk (bkp BK319) NB319_313; replace BK320 := kb (o := .cells #[.int .i64 t316, .int .i64 t317] 24 (0, 0)) hk (bkp BK320) NB320_313; replace HB := Aside0.mk (hb); replace HI313 := Aside0.mk (hi); clear hi hb hk; obtain ⟨hcz25_0, hcz25_1, hfz25_0, hfz25_1⟩ := cz2 BK319) | ((with_reducible refine gate_dst (N := 18) rfl ?_); refine Kd.R_lit (Kd.int .i64) _ 3 ?hg (N := 18) ?hd (xs := ([32400000, (-32400000)] : List Int)) (inner := [.int .i64 32400000, .int .i64 (-32400000)]) (ok := fun _ => True) (okp := fun _ => True) ?hr ?hp (fun _ hk => hk) trivial (Below.refl _ _) (Nat.le_refl _) (by simp) ?_; (case hd => rfl); (case hg => rfl); (case hr => first | (go_simp; done) | (go_simp; rfl)); (case hp => exact (Reps.one (show Kd.M (Kd.int .i64) _ _ _ 32400000 [.int .i64 32400000] from rfl) (Reps.one (show Kd.M (Kd.int .i64) _ _ _ (-32400000) [.int .i64 (-32400000)] from rfl) (Reps.none _ _)))); intro v324 w26 ho27 hb hg_ hnew_; clear hg_ hnew_; (first | rw [← Ny323.out] at ho27 | (simp only [Int.reduceToNat] at ho27; rw [← Ny323.out] at ho27)); have HO325 := Aside0.mk (Kd.R_lower ho27 (below_size (hsI_ HB))); replace BK309 := bb (bk1 BK309 NB309_319) hb; replace BK310 := bb (bk1 BK310 NB310_319) hb; replace HI313 := Aside0.mk (IsS80.below (show IsS80 w (w24.setCell ⟨gb319, 0, none⟩ (.int .i64 32400000)) g313 t311 t322 from IsS80.go_ HI313) hb); replace BK319 := bb (o := .cells #[.int .i64 32400000, .int .i64 t315] 24 (0, 0)) (bkp BK319) hb; replace BK320 := bb (bk1 BK320 NB320_319) hb; replace HB := hbb (hsI_ HB) hb; clear hb ho27) | ((with_reducible refine gate_callee (f := 53) rfl ?_); refine gL 20 Try.func53 #[.pointer (some ⟨g313, 0, none⟩), .int .i64 2] ?_; (with_reducible refine (spec_l6Rd_pick.calls k g313 t311 t322 2 t326 t327 w _ ?side1 ?side2 A6.out).mono ?_); (case side1 => exact IsS80.go_ HI313); (case side2 => exact hsI_ HB); rintro e w28 ⟨rfl, hi, hb, hk⟩; refine ⟨_, rfl, ?_⟩; replace BK309 := kb hk (bk BK309) NB309_313; replace BK310 := kb hk (bk BK310) NB310_313; replace BK319 := kb hk (bk BK319) NB319_313; replace BK320 := kb hk (bk BK320) NB320_313; replace HO325 := Aside0.mk (Kd.R_mono (Kd.R_keep (IsS80.apart (show IsS80 w _ g313 t311 t322 from IsS80.go_ HI313) (by (with_reducible repeat (first | apply Kd.R_alloc | apply Kd.R_drewN | apply Kd.R_drew)); exact HO325.out) (by decide)) hk (fun _ h => h.2)) (fun _ h => h.1)); replace HB := Aside0.mk (hb); replace HI313 := Aside0.mk (hi); clear hi hb hk; obtain ⟨Ao29, co29, eo29⟩ := Kd.R_slice HO325.out; subst eo29; have p328 : 0 ≤ (t326 : Int) := of_decide_eq_true (by first | (with_reducible assumption) | assumption); have q328 : t326 < (y323.length : Int) := of_decide_eq_true (by first | (with_reducible assumption) | assumption); obtain ⟨ad328, e328, hx328_0⟩ := Kd.at_int (Kd.R_reads' HO325.out).2.2 t326 p328 q328; cases e328; replace p328 := eq_true p328; replace q328 := eq_true q328; obtain ⟨hcz30_0, hcz30_1, hfz30_0, hfz30_1⟩ := cz2 BK320))
    have n0_ : Aside0 (Kd.R (Kd.int .i64) 3 (w28.setCell ⟨gb320, 0, none⟩ (.int .i64 (rd y323 t326))) w.heap.size (fun _ => True) (.slice (some ad328) y323.length co29) y323) := ⟨by (with_reducible repeat (first | apply Kd.R_alloc | apply Kd.R_drewN | apply Kd.R_drew)); exact Kd.R_mono (Kd.R_far (p := ⟨gb320, 0, none⟩) (Kd.R_types HO325.out BK320.out (by decide)) (fun _ hk => hk.2) (.int .i64 (rd y323 t326))) (fun _ hk => trivial)⟩
    have n1_ : Aside0 ((w28.setCell ⟨gb320, 0, none⟩ (.int .i64 (rd y323 t326))).heap[gb309]? = some (.cells #[.int .i64 0, .int .i64 0] 24 (0, 0))) := ⟨bk1 BK309 NB309_320⟩
    have n2_ : Aside0 ((w28.setCell ⟨gb320, 0, none⟩ (.int .i64 (rd y323 t326))).heap[gb310]? = some (.cells #[.int .i64 0, .int .i64 0] 24 (0, 0))) := ⟨bk1 BK310 NB310_320⟩
    have n3_ : Aside0 ((w28.setCell ⟨gb320, 0, none⟩ (.int .i64 (rd y323 t326))).heap[gb319]? = some (.cells #[.int .i64 32400000, .int .i64 t315] 24 (0, 0))) := ⟨bk1 BK319 NB319_320⟩
    have n4_ : Aside0 ((w28.setCell ⟨gb320, 0, none⟩ (.int .i64 (rd y323 t326))).heap[gb320]? = some (.cells #[.int .i64 (rd y323 t326), .int .i64 t317] 24 (0, 0))) := ⟨bkp BK320⟩
    have n5_ : Aside0 (IsS80 w (w28.setCell ⟨gb320, 0, none⟩ (.int .i64 (rd y323 t326))) g313 t311 t327) := ⟨IsS80.go_ HI313⟩
    have n6_ : Aside0 (Below w.heap.size w (w28.setCell ⟨gb320, 0, none⟩ (.int .i64 (rd y323 t326)))) := ⟨hsI_ HB⟩
    (try clear HO325)
    (try clear BK309)
    (try clear BK310)
    (try clear BK319)
    (try clear BK320)
    (try clear HI313)
    (try clear HB)
    generalize (w28.setCell ⟨gb320, 0, none⟩ (.int .i64 (rd y323 t326))) = w31 at n0_ n1_ n2_ n3_ n4_ n5_ n6_ ⊢
    have HO325 := n0_
    have BK309 := n1_
    have BK310 := n2_
    have BK319 := n3_
    have BK320 := n4_
    have HI313 := n5_
    have HB := n6_
    clear n0_ n1_ n2_ n3_ n4_ n5_ n6_
    replace HO325 := Aside0.mk (Kd.R_drew HO325.out)
    replace BK309 := Aside0.mk (blk_drew BK309.out)
    replace BK310 := Aside0.mk (blk_drew BK310.out)
    replace BK319 := Aside0.mk (blk_drew BK319.out)
    replace BK320 := Aside0.mk (blk_drew BK320.out)
    replace HI313 := Aside0.mk (IsS80.drew HI313.out)
    replace HB := Aside0.mk (below_drew1 HB.out)
    refine start_ (n := 4) (S := fun w' => w'.cell? ⟨gb319, 0, none⟩ = some (.int .i64 32400000) ∧ w'.cell? ⟨gb319, 1, none⟩ = some (.int .i64 t315) ∧ w'.cell? ⟨gb320, 0, none⟩ = some (.int .i64 (rd y323 t326)) ∧ w'.cell? ⟨gb320, 1, none⟩ = some (.int .i64 t317)) (ds := []) #[false, false, false, false] (by kernel_rfl) rfl rfl ⟨cw0 BK319, cw1 BK319, cw0 BK320, cw1 BK320⟩ (fun hHeld => ?_)
    generalize w31.drew = w32 at HO325 BK309 BK310 BK319 BK320 HI313 HB hHeld ⊢
    refine take_ (i := 0) (N := some 24) (v := ?_) (a' := ?_) #[true, false, false, false] rfl rfl (by kernel_rfl) (fun _ _ _ h => h) (Or.inl ⟨by rfl, ?_⟩) hHeld ?_ ?_
    rotate_left
    ·rintro w' ⟨s0, s1, s2, s3⟩
     go_simp
     with_reducible rfl
    rotate_left
    ·simp only [Act.put, List.setIfInBounds_toArray, List.set_cons_zero, List.set_cons_succ, i64_w, i32_w]
     rfl
    refine take_ (i := 1) (N := some 25) (v := ?_) (a' := ?_) #[true, true, false, false] rfl rfl (by kernel_rfl) (fun _ _ _ h => h) (Or.inl ⟨by rfl, ?_⟩) hHeld ?_ ?_
    rotate_left
    ·rintro w' ⟨s0, s1, s2, s3⟩
     go_simp
     with_reducible rfl
    rotate_left
    ·simp only [Act.put, List.setIfInBounds_toArray, List.set_cons_zero, List.set_cons_succ, i64_w, i32_w]
     rfl
    refine one_ (i := 2) (N := none) #[true, true, true, false] rfl rfl (by kernel_rfl) (by decide) (fun K hK => ?_)
    have hs33 : w32.cell? ⟨gb309, 0, none⟩ = some (.int .i64 0) := (blk_cell BK309.out 0).trans rfl
    have hfs33 := blk_frozen BK309.out 0
    have hns33_1 := NB310_309.out
    have hns33_2 := NB319_309.out
    have hns33_3 := NB320_309.out
    have hms33_1 := NB309_310.out
    have hms33_2 := NB309_319.out
    have hms33_3 := NB309_320.out
    have hs34 : w32.cell? ⟨gb309, 1, none⟩ = some (.int .i64 0) := (blk_cell BK309.out 1).trans rfl
    have hfs34 := blk_frozen BK309.out 1
    have hns34_1 := NB310_309.out
    have hns34_2 := NB319_309.out
    have hns34_3 := NB320_309.out
    have hms34_1 := NB309_310.out
    have hms34_2 := NB309_319.out
    have hms34_3 := NB309_320.out
    refine skip_ (w1 := ?_) (by rfl) rfl ?_ ?_
    rotate_left
    ·go_simp
     rfl
    refine hK.out _ _ ⟨((cell_far (p := ⟨gb309, _, none⟩) NB319_309.out _).trans (((cell_far (p := ⟨gb309, _, none⟩) NB319_309.out _).trans (hHeld.1)))), ((cell_far (p := ⟨gb309, _, none⟩) NB319_309.out _).trans (((cell_far (p := ⟨gb309, _, none⟩) NB319_309.out _).trans (hHeld.2.1)))), ((cell_far (p := ⟨gb309, _, none⟩) NB320_309.out _).trans (((cell_far (p := ⟨gb309, _, none⟩) NB320_309.out _).trans (hHeld.2.2.1)))), ((cell_far (p := ⟨gb309, _, none⟩) NB320_309.out _).trans (((cell_far (p := ⟨gb309, _, none⟩) NB320_309.out _).trans (hHeld.2.2.2))))⟩ (fun hHeld => ?_)
    clear hK K
    refine one_ (i := 3) (N := none) #[true, true, true, true] rfl rfl (by kernel_rfl) (by decide) (fun K hK => ?_)
    have hs35 : w32.cell? ⟨gb310, 0, none⟩ = some (.int .i64 0) := (blk_cell BK310.out 0).trans rfl
    have hfs35 := blk_frozen BK310.out 0
    have hns35_0 := NB309_310.out
    have hns35_2 := NB319_310.out
    have hns35_3 := NB320_310.out
    have hms35_0 := NB310_309.out
    have hms35_2 := NB310_319.out
    have hms35_3 := NB310_320.out
    have hs36 : w32.cell? ⟨gb310, 1, none⟩ = some (.int .i64 0) := (blk_cell BK310.out 1).trans rfl
    have hfs36 := blk_frozen BK310.out 1
    have hns36_0 := NB309_310.out
    have hns36_2 := NB319_310.out
    have hns36_3 := NB320_310.out
    have hms36_0 := NB310_309.out
    have hms36_2 := NB310_319.out
    have hms36_3 := NB310_320.out
    refine skip_ (w1 := ?_) (by rfl) rfl ?_ ?_
    rotate_left
    ·go_simp
     rfl
    refine hK.out _ _ ⟨((cell_far (p := ⟨gb310, _, none⟩) NB319_310.out _).trans (((cell_far (p := ⟨gb310, _, none⟩) NB319_310.out _).trans (hHeld.1)))), ((cell_far (p := ⟨gb310, _, none⟩) NB319_310.out _).trans (((cell_far (p := ⟨gb310, _, none⟩) NB319_310.out _).trans (hHeld.2.1)))), ((cell_far (p := ⟨gb310, _, none⟩) NB320_310.out _).trans (((cell_far (p := ⟨gb310, _, none⟩) NB320_310.out _).trans (hHeld.2.2.1)))), ((cell_far (p := ⟨gb310, _, none⟩) NB320_310.out _).trans (((cell_far (p := ⟨gb310, _, none⟩) NB320_310.out _).trans (hHeld.2.2.2))))⟩ (fun hHeld => ?_)
    clear hK K
    refine done_ (by kernel_rfl) ?_
    try go_wp2
    refine bodyPost_ret (results_cc rfl _ _ gb309 gb310 24 24 #[.int .i64 32400000, .int .i64 t315] #[.int .i64 (rd y323 t326), .int .i64 t317] (0, 0) (0, 0) _ _ rfl (bkp BK309) Try.underlying24 rfl (by kernel_rfl) rfl (bkp BK310) Try.underlying24 rfl (by kernel_rfl)) rfl ?_
    exact ⟨by first | rfl | (simp [errW_none, errW_some] <;> rfl) | (simp [*, errW_none, errW_some] <;> rfl), hsI_ HB⟩
   ·rw [if_neg c8] at H
    exact absurd H (by simp)
  ·rw [if_neg c7] at H
   exact absurd H (by simp)
 ·rw [if_neg c5] at H
  have c5b0 : (t321 == 0) = false := beq_eq_false_iff_ne.mpr c5
  have c5b1 : (t321 != 0) = true := bne_iff_ne.mpr c5
  simp only [Option.some.injEq, Prod.mk.injEq] at H
  obtain ⟨rfl, rfl, rfl, rfl⟩ := H
  go_enter Try.func23, Try.ntmps23
  try go_wp2_with (first | ((with_reducible refine gate_dst (N := 2) rfl ?_); refine bE 2 #[.int .i64 0, .int .i64 0] 24 ?_; intro gb309 hg w37 hbox hb; have BK309 := Aside0.mk (hbox); have GE309 := gw hg (h0_ HB); have GW309 := GE309; replace HB := hbb (h0_ HB) hb; clear hb hbox hg) | ((with_reducible refine gate_dst (N := 3) rfl ?_); refine bE 3 #[.int .i64 0, .int .i64 0] 24 ?_; intro gb310 hg w38 hbox hb; have BK310 := Aside0.mk (hbox); have GE310 := gw hg (hs_ HB); have GW310 := GE310; have NB309_310 := nl hg (bk BK309); have NB310_309 := ng hg (bk BK309); replace BK309 := bb (bk BK309) hb; replace HB := hbb (hs_ HB) hb; clear hb hbox hg) | ((with_reducible refine gate_callee (f := 43) rfl ?_); refine gL 8 Try.func43 #[.slice A0 l0.length c0] ?_; (with_reducible refine (spec_l6Open.calls _ _ l0 t311 t312 w _ ?side1 ?side2 ?side3 A2.out).mono ?_); (case side1 => exact hs_ HB); (case side2 => exact HR0.out); (case side3 => exact HC0.out); rintro e w39 ⟨g313, rfl, hi, hb, hb2⟩; refine ⟨_, rfl, ?_⟩; have HI313 := Aside0.mk (hi); have NB313_309 := Aside0.mk (IsS80.ne_blk hi (blk_below (g := gb309) (o := .cells #[.int .i64 0, .int .i64 0] 24 (0, 0)) (bk BK309) hb2) (by decide)); have NB309_313 := Aside0.mk (Ne.symm (IsS80.ne_blk hi (blk_below (g := gb309) (o := .cells #[.int .i64 0, .int .i64 0] 24 (0, 0)) (bk BK309) hb2) (by decide))); have NB313_310 := Aside0.mk (IsS80.ne_blk hi (blk_below (g := gb310) (o := .cells #[.int .i64 0, .int .i64 0] 24 (0, 0)) (bk BK310) hb2) (by decide)); have NB310_313 := Aside0.mk (Ne.symm (IsS80.ne_blk hi (blk_below (g := gb310) (o := .cells #[.int .i64 0, .int .i64 0] 24 (0, 0)) (bk BK310) hb2) (by decide))); replace BK309 := Aside0.mk (blk_below (g := gb309) (o := .cells #[.int .i64 0, .int .i64 0] 24 (0, 0)) (bk BK309) hb2); replace BK310 := Aside0.mk (blk_below (g := gb310) (o := .cells #[.int .i64 0, .int .i64 0] 24 (0, 0)) (bk BK310) hb2); replace HB := Aside0.mk (hb); (try clear hb); (try clear hb2); (try clear hk); (try clear hi)) | ((with_reducible refine gate_callee (f := 52) rfl ?_); refine gL 11 Try.func52 #[.pointer (some ⟨g313, 0, none⟩)] ?_; (with_reducible refine (spec_l71Spots.calls k g313 t311 t312 t314 t315 t316 t317 t318 w _ ?side1 ?side2 A3.out).mono ?_); (case side1 => exact IsS80.go_ HI313); (case side2 => exact hsI_ HB); rintro e w40 ⟨rfl, hi, hb, hk⟩; refine ⟨_, rfl, ?_⟩; replace BK309 := kb hk (bk BK309) NB309_313; replace BK310 := kb hk (bk BK310) NB310_313; replace HB := Aside0.mk (hb); replace HI313 := Aside0.mk (hi); clear hi hb hk) | ((with_reducible refine gate_dst (N := 5) rfl ?_); refine bE 5 #[.int .i64 0, .int .i64 0] 24 ?_; intro gb319 hg w41 hbox hb; have BK319 := Aside0.mk (hbox); have GE319 := gw hg (hsI_ HB); have GW319 := GE319; have NB309_319 := nl hg (bk BK309); have NB319_309 := ng hg (bk BK309); have NB310_319 := nl hg (bk BK310); have NB319_310 := ng hg (bk BK310); have NB313_319 := nL hg (IsS80.lt (show IsS80 w _ g313 t311 t318 from IsS80.go_ HI313)); have NB319_313 := nG hg (IsS80.lt (show IsS80 w _ g313 t311 t318 from IsS80.go_ HI313)); replace BK309 := bb (bk BK309) hb; replace BK310 := bb (bk BK310) hb; replace HI313 := Aside0.mk (IsS80.below (IsS80.go_ HI313) hb); replace HB := hbb (hsI_ HB) hb; clear hb hbox hg) | ((with_reducible refine gate_dst (N := 6) rfl ?_); refine bE 6 #[.int .i64 0, .int .i64 0] 24 ?_; intro gb320 hg w42 hbox hb; have BK320 := Aside0.mk (hbox); have GE320 := gw hg (hsI_ HB); have GW320 := GE320; have NB309_320 := nl hg (bk BK309); have NB320_309 := ng hg (bk BK309); have NB310_320 := nl hg (bk BK310); have NB320_310 := ng hg (bk BK310); have NB319_320 := nl hg (bk BK319); have NB320_319 := ng hg (bk BK319); have NB313_320 := nL hg (IsS80.lt (show IsS80 w _ g313 t311 t318 from IsS80.go_ HI313)); have NB320_313 := nG hg (IsS80.lt (show IsS80 w _ g313 t311 t318 from IsS80.go_ HI313)); replace BK309 := bb (bk BK309) hb; replace BK310 := bb (bk BK310) hb; replace HI313 := Aside0.mk (IsS80.below (IsS80.go_ HI313) hb); replace BK319 := bb (bk BK319) hb; replace HB := hbb (hsI_ HB) hb; clear hb hbox hg; have hnb43 := NB319_309.out; have hnc43 := NB309_319.out; have hnb44 := NB319_310.out; have hnc44 := NB310_319.out; have hnb45 := NB319_320.out; have hnc45 := NB320_319.out; have hnb46 := NB319_313.out; have hnc46 := NB313_319.out; obtain ⟨hcz47_0, hcz47_1, hfz47_0, hfz47_1⟩ := cz2 BK319; have hnb48 := NB320_309.out; have hnc48 := NB309_320.out; have hnb49 := NB320_310.out; have hnc49 := NB310_320.out; have hnb50 := NB320_313.out; have hnc50 := NB313_320.out; obtain ⟨hcz51_0, hcz51_1, hfz51_0, hfz51_1⟩ := cz2 BK320) | ((with_reducible refine gate_callee (f := 53) rfl ?_); refine gL 15 Try.func53 #[.pointer (some ⟨g313, 0, none⟩), .int .i64 3] ?_; (with_reducible refine (spec_l6Rd_pick.calls k g313 t311 t318 3 t321 t322 w _ ?side1 ?side2 A4.out).mono ?_); (case side1 => exact IsS80.go_ HI313); (case side2 => exact hsI_ HB); rintro e w52 ⟨rfl, hi, hb, hk⟩; refine ⟨_, rfl, ?_⟩; replace BK309 := kb hk (bk2 BK309 NB309_320 NB309_319) NB309_313; replace BK310 := kb hk (bk2 BK310 NB310_320 NB310_319) NB310_313; replace BK319 := kb (o := .cells #[.int .i64 t314, .int .i64 t315] 24 (0, 0)) hk (bkp BK319) NB319_313; replace BK320 := kb (o := .cells #[.int .i64 t316, .int .i64 t317] 24 (0, 0)) hk (bkp BK320) NB320_313; replace HB := Aside0.mk (hb); replace HI313 := Aside0.mk (hi); clear hi hb hk))
  replace BK309 := Aside0.mk (blk_drew BK309.out)
  replace BK310 := Aside0.mk (blk_drew BK310.out)
  replace BK319 := Aside0.mk (blk_drew BK319.out)
  replace BK320 := Aside0.mk (blk_drew BK320.out)
  replace HI313 := Aside0.mk (IsS80.drew HI313.out)
  replace HB := Aside0.mk (below_drew1 HB.out)
  refine start_ (n := 4) (S := fun w' => w'.cell? ⟨gb319, 0, none⟩ = some (.int .i64 t314) ∧ w'.cell? ⟨gb319, 1, none⟩ = some (.int .i64 t315) ∧ w'.cell? ⟨gb320, 0, none⟩ = some (.int .i64 t316) ∧ w'.cell? ⟨gb320, 1, none⟩ = some (.int .i64 t317)) (ds := []) #[false, false, false, false] (by kernel_rfl) rfl rfl ⟨cw0 BK319, cw1 BK319, cw0 BK320, cw1 BK320⟩ (fun hHeld => ?_)
  generalize w52.drew = w53 at BK309 BK310 BK319 BK320 HI313 HB hHeld ⊢
  refine take_ (i := 0) (N := some 24) (v := ?_) (a' := ?_) #[true, false, false, false] rfl rfl (by kernel_rfl) (fun _ _ _ h => h) (Or.inl ⟨by rfl, ?_⟩) hHeld ?_ ?_
  rotate_left
  ·rintro w' ⟨s0, s1, s2, s3⟩
   go_simp
   with_reducible rfl
  rotate_left
  ·simp only [Act.put, List.setIfInBounds_toArray, List.set_cons_zero, List.set_cons_succ, i64_w, i32_w]
   rfl
  refine take_ (i := 1) (N := some 25) (v := ?_) (a' := ?_) #[true, true, false, false] rfl rfl (by kernel_rfl) (fun _ _ _ h => h) (Or.inl ⟨by rfl, ?_⟩) hHeld ?_ ?_
  rotate_left
  ·rintro w' ⟨s0, s1, s2, s3⟩
   go_simp
   with_reducible rfl
  rotate_left
  ·simp only [Act.put, List.setIfInBounds_toArray, List.set_cons_zero, List.set_cons_succ, i64_w, i32_w]
   rfl
  refine one_ (i := 2) (N := none) #[true, true, true, false] rfl rfl (by kernel_rfl) (by decide) (fun K hK => ?_)
  have hs54 : w53.cell? ⟨gb309, 0, none⟩ = some (.int .i64 0) := (blk_cell BK309.out 0).trans rfl
  have hfs54 := blk_frozen BK309.out 0
  have hns54_1 := NB310_309.out
  have hns54_2 := NB319_309.out
  have hns54_3 := NB320_309.out
  have hms54_1 := NB309_310.out
  have hms54_2 := NB309_319.out
  have hms54_3 := NB309_320.out
  have hs55 : w53.cell? ⟨gb309, 1, none⟩ = some (.int .i64 0) := (blk_cell BK309.out 1).trans rfl
  have hfs55 := blk_frozen BK309.out 1
  have hns55_1 := NB310_309.out
  have hns55_2 := NB319_309.out
  have hns55_3 := NB320_309.out
  have hms55_1 := NB309_310.out
  have hms55_2 := NB309_319.out
  have hms55_3 := NB309_320.out
  refine skip_ (w1 := ?_) (by rfl) rfl ?_ ?_
  rotate_left
  ·go_simp
   rfl
  refine hK.out _ _ ⟨((cell_far (p := ⟨gb309, _, none⟩) NB319_309.out _).trans (((cell_far (p := ⟨gb309, _, none⟩) NB319_309.out _).trans (hHeld.1)))), ((cell_far (p := ⟨gb309, _, none⟩) NB319_309.out _).trans (((cell_far (p := ⟨gb309, _, none⟩) NB319_309.out _).trans (hHeld.2.1)))), ((cell_far (p := ⟨gb309, _, none⟩) NB320_309.out _).trans (((cell_far (p := ⟨gb309, _, none⟩) NB320_309.out _).trans (hHeld.2.2.1)))), ((cell_far (p := ⟨gb309, _, none⟩) NB320_309.out _).trans (((cell_far (p := ⟨gb309, _, none⟩) NB320_309.out _).trans (hHeld.2.2.2))))⟩ (fun hHeld => ?_)
  clear hK K
  refine one_ (i := 3) (N := none) #[true, true, true, true] rfl rfl (by kernel_rfl) (by decide) (fun K hK => ?_)
  have hs56 : w53.cell? ⟨gb310, 0, none⟩ = some (.int .i64 0) := (blk_cell BK310.out 0).trans rfl
  have hfs56 := blk_frozen BK310.out 0
  have hns56_0 := NB309_310.out
  have hns56_2 := NB319_310.out
  have hns56_3 := NB320_310.out
  have hms56_0 := NB310_309.out
  have hms56_2 := NB310_319.out
  have hms56_3 := NB310_320.out
  have hs57 : w53.cell? ⟨gb310, 1, none⟩ = some (.int .i64 0) := (blk_cell BK310.out 1).trans rfl
  have hfs57 := blk_frozen BK310.out 1
  have hns57_0 := NB309_310.out
  have hns57_2 := NB319_310.out
  have hns57_3 := NB320_310.out
  have hms57_0 := NB310_309.out
  have hms57_2 := NB310_319.out
  have hms57_3 := NB310_320.out
  refine skip_ (w1 := ?_) (by rfl) rfl ?_ ?_
  rotate_left
  ·go_simp
   rfl
  refine hK.out _ _ ⟨((cell_far (p := ⟨gb310, _, none⟩) NB319_310.out _).trans (((cell_far (p := ⟨gb310, _, none⟩) NB319_310.out _).trans (hHeld.1)))), ((cell_far (p := ⟨gb310, _, none⟩) NB319_310.out _).trans (((cell_far (p := ⟨gb310, _, none⟩) NB319_310.out _).trans (hHeld.2.1)))), ((cell_far (p := ⟨gb310, _, none⟩) NB320_310.out _).trans (((cell_far (p := ⟨gb310, _, none⟩) NB320_310.out _).trans (hHeld.2.2.1)))), ((cell_far (p := ⟨gb310, _, none⟩) NB320_310.out _).trans (((cell_far (p := ⟨gb310, _, none⟩) NB320_310.out _).trans (hHeld.2.2.2))))⟩ (fun hHeld => ?_)
  clear hK K
  refine done_ (by kernel_rfl) ?_
  try go_wp2
  refine bodyPost_ret (results_cc rfl _ _ gb309 gb310 24 24 #[.int .i64 t314, .int .i64 t315] #[.int .i64 t316, .int .i64 t317] (0, 0) (0, 0) _ _ rfl (bkp BK309) Try.underlying24 rfl (by kernel_rfl) rfl (bkp BK310) Try.underlying24 rfl (by kernel_rfl)) rfl ?_
  exact ⟨by first | rfl | (simp [errW_none, errW_some] <;> rfl) | (simp [*, errW_none, errW_some] <;> rfl), hsI_ HB⟩


end Go.Proofs.Ytmcippkpgmehdaa.M
