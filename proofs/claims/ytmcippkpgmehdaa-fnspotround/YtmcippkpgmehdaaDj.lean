import Derived.Test.YtmcippkpgmehdaaM0
import Derived.Test.YtmcippkpgmehdaaWInv
import Derived.Test.YtmcippkpgmehdaaDa
import Derived.Test.YtmcippkpgmehdaaDc
namespace Go.Proofs.Ytmcippkpgmehdaa.M
open Go.RowKit Go.Proofs.YtmcippkpgmehdaaW.PrintWords Go.Proofs.YtmcippkpgmehdaaW.PrintLast Go.Proofs.YtmcippkpgmehdaaW.PrintMore
attribute [local go_sem] max2_int min2_int max_two min_two max_three min_three max_four min_four
attribute [local go_sem high] eqA42 eqA29 eqA24
attribute [local go_sem] fld42_0 fld42_1 fld29_0 fld29_1 fld24_0 fld24_1 fld38_0 fld38_1 fld88_0 fld88_1 fld88_2 fld88_3 fld88_4
set_option linter.unusedVariables false
set_option linter.unusedSimpArgs false

/-! ### spec_l71Way: function 66 -/
def spec_l71Way.f (k : Nat) (s0_0 : List Int) (s0_1 : Int) : Option (Int × Int) := (spec_l6Rd_pick.f k s0_0 s0_1 20).bind fun bt523 => (if bt523.1 = 0 then ((some (([0, 5, (-1)] : List Int) : List Int)).bind fun y525 => ((spec_l6Rd_pick.f k s0_0 bt523.2 3).bind fun bt528 => (if 0 ≤ bt528.1 then (if bt528.1 < (y525.length : Int) then (some (rd y525 bt528.1, bt528.2)) else (none)) else (none)))) else ((spec_l6Rd_pick.f k s0_0 bt523.2 4).bind fun bt531 => (some (wrap64 (1 + bt531.1), bt531.2))))
set_option maxHeartbeats 8000000 in
set_option maxRecDepth 100000 in
theorem spec_l71Way.calls (k : Nat) (g : Nat) (s0_0 : List Int) (s0_1 : Int) (r1 : Int) (r2 : Int) (w0 w : World) (hI : IsS80 w0 w g s0_0 s0_1) (hB : Below w0.heap.size w0 w) (h : spec_l71Way.f k s0_0 s0_1 = some (r1, r2)) :
  Calls Try.prog 66 #[.pointer (some ⟨g, 0, none⟩)] w fun e w' => e = .returned (.int .i64 r1) ∧ IsS80 w0 w' g s0_0 r2 ∧ Below w0.heap.size w0 w' ∧ KeepBut w w' g none := by
 have HI0 := Aside0.mk hI
 have HK := Aside0.mk (KeepBut.refl w g none)
 have HL := Aside0.mk hB.size
 clear hI
 have HW0 := Aside0.mk hB.size
 have HB := Aside0.mk hB
 clear hB
 have H : ((spec_l6Rd_pick.f k s0_0 s0_1 20).bind fun bt523 => (if bt523.1 = 0 then ((some (([0, 5, (-1)] : List Int) : List Int)).bind fun y525 => ((spec_l6Rd_pick.f k s0_0 bt523.2 3).bind fun bt528 => (if 0 ≤ bt528.1 then (if bt528.1 < (y525.length : Int) then (some (rd y525 bt528.1, bt528.2)) else (none)) else (none)))) else ((spec_l6Rd_pick.f k s0_0 bt523.2 4).bind fun bt531 => (some (wrap64 (1 + bt531.1), bt531.2))))) = some (r1, r2) := h
 clear h
 replace H := Option.bind_eq_some_iff.mp H
 obtain ⟨⟨t523, t524⟩, A20, H⟩ := H
 try dsimp only at H
 have A2 := Aside0.mk A20
 clear A20
 by_cases c3 : t523 = 0
 ·rw [if_pos c3] at H
  have c3b0 : (t523 == 0) = true := beq_iff_eq.mpr c3
  have c3b1 : (t523 != 0) = false := bne_eq_false_iff_eq.mpr c3
  clear c3
  obtain ⟨y525, hy525⟩ : ∃ y_ : List Int, y_ = (([0, 5, (-1)] : List Int)) := ⟨_, rfl⟩
  replace H : ((spec_l6Rd_pick.f k s0_0 t524 3).bind fun bt528 => (if 0 ≤ bt528.1 then (if bt528.1 < (y525.length : Int) then (some (rd y525 bt528.1, bt528.2)) else (none)) else (none))) = some (r1, r2) := by first | (rw [hy525]; with_reducible exact H) | (have H2_ := (Option.bind_some _ _).symm.trans H; rw [hy525]; with_reducible exact H2_) | (have H2_ := (Option.bind_some _ _).symm.trans H; with_reducible exact H2_) | with_reducible exact H | (rw [hy525]; exact H) | exact H
  have Ny525 := Aside0.mk hy525
  clear hy525
  replace H := Option.bind_eq_some_iff.mp H
  obtain ⟨⟨t528, t529⟩, A40, H⟩ := H
  try dsimp only at H
  have A4 := Aside0.mk A40
  clear A40
  by_cases c5 : 0 ≤ t528
  ·rw [if_pos c5] at H
   have c5b0 : decide (0 ≤ t528) = true := decide_eq_true c5
   clear c5
   by_cases c6 : t528 < (y525.length : Int)
   ·rw [if_pos c6] at H
    have c6b0 : decide (t528 < (y525.length : Int)) = true := decide_eq_true c6
    clear c6
    simp only [Option.some.injEq, Prod.mk.injEq] at H
    obtain ⟨rfl, rfl⟩ := H
    go_enter Try.func66, Try.ntmps66
    go_wp2_with (first | ((with_reducible refine gate_callee (f := 53) rfl ?_); refine gL 4 Try.func53 #[.pointer (some ⟨g, 0, none⟩), .int .i64 20] ?_; (with_reducible refine (spec_l6Rd_pick.calls k g s0_0 s0_1 20 t523 t524 w0 _ ?side1 ?side2 A2.out).mono ?_); (case side1 => exact IsS80.go_ HI0); (case side2 => exact hzI HB); rintro e w7 ⟨rfl, hi, hb, hk⟩; refine ⟨_, rfl, ?_⟩; replace HK := Aside0.mk (KeepBut.trans (hzk HK) hk (.inl rfl)); replace HB := Aside0.mk (hb); replace HI0 := Aside0.mk (hi); clear hi hb hk) | ((with_reducible refine gate_dst (N := 6) rfl ?_); refine Kd.R_lit (Kd.int .i64) _ 3 ?hg (N := 6) ?hd (xs := ([0, 5, (-1)] : List Int)) (inner := [.int .i64 0, .int .i64 5, .int .i64 (-1)]) (ok := fun _ => True) (okp := fun _ => True) ?hr ?hp (fun _ hk => hk) trivial (Below.refl _ _) (Nat.le_refl _) (by simp) ?_; (case hd => rfl); (case hg => rfl); (case hr => first | (go_simp; done) | (go_simp; rfl)); (case hp => exact (Reps.one (show Kd.M (Kd.int .i64) _ _ _ 0 [.int .i64 0] from rfl) (Reps.one (show Kd.M (Kd.int .i64) _ _ _ 5 [.int .i64 5] from rfl) (Reps.one (show Kd.M (Kd.int .i64) _ _ _ (-1) [.int .i64 (-1)] from rfl) (Reps.none _ _))))); intro v526 w8 ho9 hb hg_ hnew_; clear hg_ hnew_; (first | rw [← Ny525.out] at ho9 | (simp only [Int.reduceToNat] at ho9; rw [← Ny525.out] at ho9)); have HO527 := Aside0.mk (Kd.R_lower ho9 (keep_size (w := w) (g := g) (row := none) (hzk HK))); replace HI0 := Aside0.mk (IsS80.below (IsS80.go_ HI0) hb); replace HK := Aside0.mk (KeepBut.trans (hzk HK) (KeepBut.of_below hb g none) (.inl rfl)); replace HB := hbb (hzI HB) hb; clear hb ho9) | ((with_reducible refine gate_callee (f := 53) rfl ?_); refine gL 8 Try.func53 #[.pointer (some ⟨g, 0, none⟩), .int .i64 3] ?_; (with_reducible refine (spec_l6Rd_pick.calls k g s0_0 t524 3 t528 t529 w0 _ ?side1 ?side2 A4.out).mono ?_); (case side1 => exact IsS80.go_ HI0); (case side2 => exact hzI HB); rintro e w10 ⟨rfl, hi, hb, hk⟩; refine ⟨_, rfl, ?_⟩; replace HO527 := Aside0.mk (Kd.R_mono (Kd.R_keep (IsS80.apart (show IsS80 w0 _ g s0_0 t524 from IsS80.go_ HI0) (by (with_reducible repeat (first | apply Kd.R_alloc | apply Kd.R_drewN | apply Kd.R_drew)); exact HO527.out) (by decide)) hk (fun _ h => h.2)) (fun _ h => h.1)); replace HK := Aside0.mk (KeepBut.trans (hzk HK) hk (.inl rfl)); replace HB := Aside0.mk (hb); replace HI0 := Aside0.mk (hi); clear hi hb hk; obtain ⟨Ao11, co11, eo11⟩ := Kd.R_slice HO527.out; subst eo11; have p530 : 0 ≤ (t528 : Int) := of_decide_eq_true (by first | (with_reducible assumption) | assumption); have q530 : t528 < (y525.length : Int) := of_decide_eq_true (by first | (with_reducible assumption) | assumption); obtain ⟨ad530, e530, hx530_0⟩ := Kd.at_int (Kd.R_reads' HO527.out).2.2 t528 p530 q530; cases e530; replace p530 := eq_true p530; replace q530 := eq_true q530))
    go_ret
    exact ⟨by first | rfl | (simp [errW_none, errW_some] <;> rfl) | (simp [*, errW_none, errW_some] <;> rfl), IsS80.go_ HI0, hzI HB, hzk HK⟩
   ·rw [if_neg c6] at H
    exact absurd H (by simp)
  ·rw [if_neg c5] at H
   exact absurd H (by simp)
 ·rw [if_neg c3] at H
  have c3b0 : (t523 == 0) = false := beq_eq_false_iff_ne.mpr c3
  have c3b1 : (t523 != 0) = true := bne_iff_ne.mpr c3
  replace H := Option.bind_eq_some_iff.mp H
  obtain ⟨⟨t531, t532⟩, A120, H⟩ := H
  try dsimp only at H
  have A12 := Aside0.mk A120
  clear A120
  simp only [Option.some.injEq, Prod.mk.injEq] at H
  obtain ⟨rfl, rfl⟩ := H
  go_enter Try.func66, Try.ntmps66
  go_wp2_with (first | ((with_reducible refine gate_callee (f := 53) rfl ?_); refine gL 4 Try.func53 #[.pointer (some ⟨g, 0, none⟩), .int .i64 20] ?_; (with_reducible refine (spec_l6Rd_pick.calls k g s0_0 s0_1 20 t523 t524 w0 _ ?side1 ?side2 A2.out).mono ?_); (case side1 => exact IsS80.go_ HI0); (case side2 => exact hzI HB); rintro e w13 ⟨rfl, hi, hb, hk⟩; refine ⟨_, rfl, ?_⟩; replace HK := Aside0.mk (KeepBut.trans (hzk HK) hk (.inl rfl)); replace HB := Aside0.mk (hb); replace HI0 := Aside0.mk (hi); clear hi hb hk) | ((with_reducible refine gate_callee (f := 53) rfl ?_); refine gL 12 Try.func53 #[.pointer (some ⟨g, 0, none⟩), .int .i64 4] ?_; (with_reducible refine (spec_l6Rd_pick.calls k g s0_0 t524 4 t531 t532 w0 _ ?side1 ?side2 A12.out).mono ?_); (case side1 => exact IsS80.go_ HI0); (case side2 => exact hzI HB); rintro e w14 ⟨rfl, hi, hb, hk⟩; refine ⟨_, rfl, ?_⟩; replace HK := Aside0.mk (KeepBut.trans (hzk HK) hk (.inl rfl)); replace HB := Aside0.mk (hb); replace HI0 := Aside0.mk (hi); clear hi hb hk))
  go_ret
  exact ⟨by first | rfl | (simp [errW_none, errW_some] <;> rfl) | (simp [*, errW_none, errW_some] <;> rfl), IsS80.go_ HI0, hzI HB, hzk HK⟩


/-! ### spec_DrawSpotRound: function 40 -/
def spec_DrawSpotRound.f (k : Nat) (l0 : List Int) : Option (Int × Int × Int × Int × Int × Int) := (spec_l6Open.f l0).bind fun bt535 => ((spec_l71Spots.f k bt535.1 bt535.2).bind fun bt538 => ((some (([100, 6000, 360000, 1, 0] : List Int) : List Int)).bind fun y545 => ((spec_l6Rd_pick.f k bt535.1 bt538.2.2.2.2 5).bind fun bt548 => (if 0 ≤ bt548.1 then (if bt548.1 < (y545.length : Int) then ((spec_l71Way.f k bt535.1 bt548.2).bind fun bt551 => (some (bt538.1, bt538.2.1, bt538.2.2.1, bt538.2.2.2.1, rd y545 bt548.1, bt551.1))) else (none)) else (none)))))
def spec_DrawSpotRound.T3 : Bool × List (List Nat × List Nat) := (true, [([], []), ([], []), ([], []), ([], []), ([3], [3]), ([2, 4], [2, 4]), ([5], [5]), ([], []), ([7, 4], [7]), ([0, 8, 0], [0]), ([1, 9, 0, 1, 9], [1]), ([6, 10, 0, 1, 2, 3, 4, 5, 6, 9, 10], [6]), ([8, 11, 0, 1, 2, 3, 4, 5, 6, 7, 8, 9, 10, 11], [8])])
def spec_DrawSpotRound.B3 : List Nat := [0, 0, 0, 0, 8, 28, 60, 0, 152, 409, 923, 2047, 4095]
theorem spec_DrawSpotRound.tab3 : rtab .any (opsOf Try.f40 3) = spec_DrawSpotRound.T3 := by kernel_rfl
theorem spec_DrawSpotRound.bits3 : waitsOk spec_DrawSpotRound.T3.2 spec_DrawSpotRound.B3 = true := by kernel_rfl
set_option maxHeartbeats 8000000 in
set_option maxRecDepth 100000 in
theorem spec_DrawSpotRound.calls (k : Nat) (A0 : Option Addr) (c0 : Nat) (l0 : List Int) (r1 : Int) (r2 : Int) (r3 : Int) (r4 : Int) (r5 : Int) (r6 : Int) (w : World) (hr0 : Kd.C (Kd.int .u8) w A0 l0.length l0) (hc0 : l0.length ≤ c0) (h : spec_DrawSpotRound.f k l0 = some (r1, r2, r3, r4, r5, r6)) :
  Calls Try.prog 40 #[.slice A0 l0.length c0] w fun e w' => e = .returned (.tuple #[.agg #[.int .i64 r1, .int .i64 r2], .agg #[.int .i64 r3, .int .i64 r4], .int .i64 r5, .int .i64 r6]) ∧ Below w.heap.size w w' := by
 have hu24 := Try.underlying24
 have HR0 := Aside0.mk hr0
 have HC0 := Aside0.mk hc0
 clear hr0 hc0
 have HB := Aside0.mk (Below.refl w.heap.size w)
 have H : ((spec_l6Open.f l0).bind fun bt535 => ((spec_l71Spots.f k bt535.1 bt535.2).bind fun bt538 => ((some (([100, 6000, 360000, 1, 0] : List Int) : List Int)).bind fun y545 => ((spec_l6Rd_pick.f k bt535.1 bt538.2.2.2.2 5).bind fun bt548 => (if 0 ≤ bt548.1 then (if bt548.1 < (y545.length : Int) then ((spec_l71Way.f k bt535.1 bt548.2).bind fun bt551 => (some (bt538.1, bt538.2.1, bt538.2.2.1, bt538.2.2.2.1, rd y545 bt548.1, bt551.1))) else (none)) else (none)))))) = some (r1, r2, r3, r4, r5, r6) := h
 clear h
 replace H := Option.bind_eq_some_iff.mp H
 obtain ⟨⟨t535, t536⟩, A20, H⟩ := H
 try dsimp only at H
 have A2 := Aside0.mk A20
 clear A20
 replace H := Option.bind_eq_some_iff.mp H
 obtain ⟨⟨t538, t539, t540, t541, t542⟩, A30, H⟩ := H
 try dsimp only at H
 have A3 := Aside0.mk A30
 clear A30
 obtain ⟨y545, hy545⟩ : ∃ y_ : List Int, y_ = (([100, 6000, 360000, 1, 0] : List Int)) := ⟨_, rfl⟩
 replace H : ((spec_l6Rd_pick.f k t535 t542 5).bind fun bt548 => (if 0 ≤ bt548.1 then (if bt548.1 < (y545.length : Int) then ((spec_l71Way.f k t535 bt548.2).bind fun bt551 => (some (t538, t539, t540, t541, rd y545 bt548.1, bt551.1))) else (none)) else (none))) = some (r1, r2, r3, r4, r5, r6) := by first | (rw [hy545]; with_reducible exact H) | (have H2_ := (Option.bind_some _ _).symm.trans H; rw [hy545]; with_reducible exact H2_) | (have H2_ := (Option.bind_some _ _).symm.trans H; with_reducible exact H2_) | with_reducible exact H | (rw [hy545]; exact H) | exact H
 have Ny545 := Aside0.mk hy545
 clear hy545
 replace H := Option.bind_eq_some_iff.mp H
 obtain ⟨⟨t548, t549⟩, A40, H⟩ := H
 try dsimp only at H
 have A4 := Aside0.mk A40
 clear A40
 by_cases c5 : 0 ≤ t548
 ·rw [if_pos c5] at H
  have c5b0 : decide (0 ≤ t548) = true := decide_eq_true c5
  clear c5
  by_cases c6 : t548 < (y545.length : Int)
  ·rw [if_pos c6] at H
   have c6b0 : decide (t548 < (y545.length : Int)) = true := decide_eq_true c6
   clear c6
   replace H := Option.bind_eq_some_iff.mp H
   obtain ⟨⟨t551, t552⟩, A70, H⟩ := H
   try dsimp only at H
   have A7 := Aside0.mk A70
   clear A70
   simp only [Option.some.injEq, Prod.mk.injEq] at H
   obtain ⟨rfl, rfl, rfl, rfl, rfl, rfl⟩ := H
   go_enter Try.func40, Try.ntmps40
   try go_wp2_with (first | ((with_reducible refine gate_dst (N := 2) rfl ?_); refine bE 2 #[.int .i64 0, .int .i64 0] 24 ?_; intro gb533 hg w8 hbox hb; have BK533 := Aside0.mk (hbox); have GE533 := gw hg (hz0 HB); replace HB := hbb (hz0 HB) hb; clear hb hbox hg) | ((with_reducible refine gate_dst (N := 3) rfl ?_); refine bE 3 #[.int .i64 0, .int .i64 0] 24 ?_; intro gb534 hg w9 hbox hb; have BK534 := Aside0.mk (hbox); have GE534 := gw hg (hzs HB); have NB533_534 := nl hg (bk BK533); have NB534_533 := ng hg (bk BK533); replace BK533 := bb (bk BK533) hb; replace HB := hbb (hzs HB) hb; clear hb hbox hg) | ((with_reducible refine gate_callee (f := 43) rfl ?_); refine gL 10 Try.func43 #[.slice A0 l0.length c0] ?_; (with_reducible refine (spec_l6Open.calls _ _ l0 t535 t536 w _ ?side1 ?side2 ?side3 A2.out).mono ?_); (case side1 => exact hzs HB); (case side2 => exact HR0.out); (case side3 => exact HC0.out); rintro e w10 ⟨g537, rfl, hi, hb, hb2⟩; refine ⟨_, rfl, ?_⟩; have HI537 := Aside0.mk (hi); have NB537_533 := Aside0.mk (IsS80.ne_blk hi (blk_below (g := gb533) (o := .cells #[.int .i64 0, .int .i64 0] 24 (0, 0)) (bk BK533) hb2) (by decide)); have NB533_537 := Aside0.mk (Ne.symm (IsS80.ne_blk hi (blk_below (g := gb533) (o := .cells #[.int .i64 0, .int .i64 0] 24 (0, 0)) (bk BK533) hb2) (by decide))); have NB537_534 := Aside0.mk (IsS80.ne_blk hi (blk_below (g := gb534) (o := .cells #[.int .i64 0, .int .i64 0] 24 (0, 0)) (bk BK534) hb2) (by decide)); have NB534_537 := Aside0.mk (Ne.symm (IsS80.ne_blk hi (blk_below (g := gb534) (o := .cells #[.int .i64 0, .int .i64 0] 24 (0, 0)) (bk BK534) hb2) (by decide))); replace BK533 := Aside0.mk (blk_below (g := gb533) (o := .cells #[.int .i64 0, .int .i64 0] 24 (0, 0)) (bk BK533) hb2); replace BK534 := Aside0.mk (blk_below (g := gb534) (o := .cells #[.int .i64 0, .int .i64 0] 24 (0, 0)) (bk BK534) hb2); replace HB := Aside0.mk (hb); (try clear hb); (try clear hb2); (try clear hk); (try clear hi)) | ((with_reducible refine gate_callee (f := 52) rfl ?_); refine gL 13 Try.func52 #[.pointer (some ⟨g537, 0, none⟩)] ?_; (with_reducible refine (spec_l71Spots.calls k g537 t535 t536 t538 t539 t540 t541 t542 w _ ?side1 ?side2 A3.out).mono ?_); (case side1 => exact IsS80.go_ HI537); (case side2 => exact hzI HB); rintro e w11 ⟨rfl, hi, hb, hk⟩; refine ⟨_, rfl, ?_⟩; replace BK533 := kb hk (bk BK533) NB533_537; replace BK534 := kb hk (bk BK534) NB534_537; replace HB := Aside0.mk (hb); replace HI537 := Aside0.mk (hi); clear hi hb hk) | ((with_reducible refine gate_dst (N := 7) rfl ?_); refine bE 7 #[.int .i64 0, .int .i64 0] 24 ?_; intro gb543 hg w12 hbox hb; have BK543 := Aside0.mk (hbox); have GE543 := gw hg (hzI HB); have NB533_543 := nl hg (bk BK533); have NB543_533 := ng hg (bk BK533); have NB534_543 := nl hg (bk BK534); have NB543_534 := ng hg (bk BK534); have NB537_543 := nL hg (IsS80.lt (show IsS80 w _ g537 t535 t542 from IsS80.go_ HI537)); have NB543_537 := nG hg (IsS80.lt (show IsS80 w _ g537 t535 t542 from IsS80.go_ HI537)); replace BK533 := bb (bk BK533) hb; replace BK534 := bb (bk BK534) hb; replace HI537 := Aside0.mk (IsS80.below (IsS80.go_ HI537) hb); replace HB := hbb (hzI HB) hb; clear hb hbox hg) | ((with_reducible refine gate_dst (N := 8) rfl ?_); refine bE 8 #[.int .i64 0, .int .i64 0] 24 ?_; intro gb544 hg w13 hbox hb; have BK544 := Aside0.mk (hbox); have GE544 := gw hg (hzI HB); have NB533_544 := nl hg (bk BK533); have NB544_533 := ng hg (bk BK533); have NB534_544 := nl hg (bk BK534); have NB544_534 := ng hg (bk BK534); have NB543_544 := nl hg (bk BK543); have NB544_543 := ng hg (bk BK543); have NB537_544 := nL hg (IsS80.lt (show IsS80 w _ g537 t535 t542 from IsS80.go_ HI537)); have NB544_537 := nG hg (IsS80.lt (show IsS80 w _ g537 t535 t542 from IsS80.go_ HI537)); replace BK533 := bb (bk BK533) hb; replace BK534 := bb (bk BK534) hb; replace HI537 := Aside0.mk (IsS80.below (IsS80.go_ HI537) hb); replace BK543 := bb (bk BK543) hb; replace HB := hbb (hzI HB) hb; clear hb hbox hg; have hnb14 := NB543_533.out; have hnc14 := NB533_543.out; have hnb15 := NB543_534.out; have hnc15 := NB534_543.out; have hnb16 := NB543_544.out; have hnc16 := NB544_543.out; have hnb17 := NB543_537.out; have hnc17 := NB537_543.out; obtain ⟨hcz18_0, hcz18_1, hfz18_0, hfz18_1⟩ := cz2 BK543; have hnb19 := NB544_533.out; have hnc19 := NB533_544.out; have hnb20 := NB544_534.out; have hnc20 := NB534_544.out; have hnb21 := NB544_537.out; have hnc21 := NB537_544.out; obtain ⟨hcz22_0, hcz22_1, hfz22_0, hfz22_1⟩ := cz2 BK544))
   have pi550 : (0 ≤ (t548 : Int)) = True := eq_true (of_decide_eq_true (by first | (with_reducible assumption) | assumption))
   have qi550 : (t548 < (y545.length : Int)) = True := eq_true (of_decide_eq_true (by first | (with_reducible assumption) | assumption))
   have n0_ : Aside0 (((((w13.setCell ⟨gb543, 0, none⟩ (.int .i64 t538)).setCell ⟨gb543, 1, none⟩ (.int .i64 t539)).setCell ⟨gb544, 0, none⟩ (.int .i64 t540)).setCell ⟨gb544, 1, none⟩ (.int .i64 t541)).heap[gb533]? = some (.cells #[.int .i64 0, .int .i64 0] 24 (0, 0))) := ⟨bk2 BK533 NB533_544 NB533_543⟩
   have n1_ : Aside0 (((((w13.setCell ⟨gb543, 0, none⟩ (.int .i64 t538)).setCell ⟨gb543, 1, none⟩ (.int .i64 t539)).setCell ⟨gb544, 0, none⟩ (.int .i64 t540)).setCell ⟨gb544, 1, none⟩ (.int .i64 t541)).heap[gb534]? = some (.cells #[.int .i64 0, .int .i64 0] 24 (0, 0))) := ⟨bk2 BK534 NB534_544 NB534_543⟩
   have n2_ : Aside0 (((((w13.setCell ⟨gb543, 0, none⟩ (.int .i64 t538)).setCell ⟨gb543, 1, none⟩ (.int .i64 t539)).setCell ⟨gb544, 0, none⟩ (.int .i64 t540)).setCell ⟨gb544, 1, none⟩ (.int .i64 t541)).heap[gb543]? = some (.cells #[.int .i64 t538, .int .i64 t539] 24 (0, 0))) := ⟨bkp BK543⟩
   have n3_ : Aside0 (((((w13.setCell ⟨gb543, 0, none⟩ (.int .i64 t538)).setCell ⟨gb543, 1, none⟩ (.int .i64 t539)).setCell ⟨gb544, 0, none⟩ (.int .i64 t540)).setCell ⟨gb544, 1, none⟩ (.int .i64 t541)).heap[gb544]? = some (.cells #[.int .i64 t540, .int .i64 t541] 24 (0, 0))) := ⟨bkp BK544⟩
   have n4_ : Aside0 (IsS80 w ((((w13.setCell ⟨gb543, 0, none⟩ (.int .i64 t538)).setCell ⟨gb543, 1, none⟩ (.int .i64 t539)).setCell ⟨gb544, 0, none⟩ (.int .i64 t540)).setCell ⟨gb544, 1, none⟩ (.int .i64 t541)) g537 t535 t542) := ⟨IsS80.go_ HI537⟩
   have n5_ : Aside0 (Below w.heap.size w ((((w13.setCell ⟨gb543, 0, none⟩ (.int .i64 t538)).setCell ⟨gb543, 1, none⟩ (.int .i64 t539)).setCell ⟨gb544, 0, none⟩ (.int .i64 t540)).setCell ⟨gb544, 1, none⟩ (.int .i64 t541))) := ⟨hzI HB⟩
   (try clear BK533)
   (try clear BK534)
   (try clear BK543)
   (try clear BK544)
   (try clear HI537)
   (try clear HB)
   generalize ((((w13.setCell ⟨gb543, 0, none⟩ (.int .i64 t538)).setCell ⟨gb543, 1, none⟩ (.int .i64 t539)).setCell ⟨gb544, 0, none⟩ (.int .i64 t540)).setCell ⟨gb544, 1, none⟩ (.int .i64 t541)) = w23 at n0_ n1_ n2_ n3_ n4_ n5_ ⊢
   have BK533 := n0_
   have BK534 := n1_
   have BK543 := n2_
   have BK544 := n3_
   have HI537 := n4_
   have HB := n5_
   clear n0_ n1_ n2_ n3_ n4_ n5_
   replace BK533 := Aside0.mk (blk_drew BK533.out)
   replace BK534 := Aside0.mk (blk_drew BK534.out)
   replace BK543 := Aside0.mk (blk_drew BK543.out)
   replace BK544 := Aside0.mk (blk_drew BK544.out)
   replace HI537 := Aside0.mk (IsS80.drew HI537.out)
   replace HB := Aside0.mk (below_drew1 HB.out)
   refine start_ (n := 13) (S := fun w' => True) (ds := []) #[false, false, false, false, false, false, false, false, false, false, false, false, false] (by kernel_rfl) rfl rfl trivial (fun hHeld => ?_); refine with_tabW spec_DrawSpotRound.tab3 spec_DrawSpotRound.bits3 (fun HT_ HW_ => ?_)
   generalize w23.drew = w24 at BK533 BK534 BK543 BK544 HI537 HB hHeld ⊢
   refine pU 3 19 #[false, false, false, true, false, false, false, false, false, false, false, false, false] HT_ ?_
   refine pU 7 23 #[false, false, false, true, false, false, false, true, false, false, false, false, false] HT_ ?_
   refine inv_at [0, 1, 2, 4, 5, 6, 8, 9, 10, 11, 12] (fun a0_ b a w' => ∃ (v546 : Value) (adz_v546 : Addr) (m5_ : Value), a = putSel a0_ b [(0, 16, .agg #[.int .i64 t538, .int .i64 t539]), (1, 17, .agg #[.int .i64 t540, .int .i64 t541]), (2, 18, v546), (4, 20, .int .i64 t548), (5, 21, m5_), (6, 22, .int .i64 (rd y545 t548)), (8, 24, .int .i64 t551), (11, 4, .int .i64 (rd y545 t548)), (12, 5, .int .i64 t551)] ∧ (b 9 = false → w'.heap[gb533]? = some (.cells #[.int .i64 0, .int .i64 0] 24 (0, 0))) ∧ (b 10 = false → w'.heap[gb534]? = some (.cells #[.int .i64 0, .int .i64 0] 24 (0, 0))) ∧ (w'.heap[gb543]? = some (.cells #[.int .i64 t538, .int .i64 t539] 24 (0, 0))) ∧ (w'.heap[gb544]? = some (.cells #[.int .i64 t540, .int .i64 t541] 24 (0, 0))) ∧ (b 4 = false → IsS80 w w' g537 t535 t542) ∧ (Below w.heap.size w w') ∧ (b 2 = true → Kd.R (Kd.int .i64) 3 w' w.heap.size (fun _ => True) v546 y545) ∧ (b 2 = true → ∃ c_, (v546 : Value) = .slice (some adz_v546) y545.length c_) ∧ (b 4 = true → b 8 = false → IsS80 w w' g537 t535 t549) ∧ (b 8 = true → IsS80 w w' g537 t535 t552) ∧ (b 9 = true → w'.heap[gb533]? = some (.cells #[.int .i64 t538, .int .i64 t539] 24 (0, 0))) ∧ (b 10 = true → w'.heap[gb534]? = some (.cells #[.int .i64 t540, .int .i64 t541] 24 (0, 0))) ∧ (b 5 = true → (m5_ : Value) = .pointer (some (adz_v546.add (t548).toNat)))) HT_.out HW_.out (by kernel_rfl) (by kernel_rfl) ?_ ?_ ?_
   ·exact ⟨.bool false, ⟨0, 0, none⟩, .bool false, by simp only [putSel, Bool.false_eq_true, if_false], fun _ => BK533.out, fun _ => BK534.out, BK543.out, BK544.out, fun _ => HI537.out, HB.out, fun h_ => absurd h_ (by decide), fun h_ => absurd h_ (by decide), fun h_ => absurd h_ (by decide), fun h_ => absurd h_ (by decide), fun h_ => absurd h_ (by decide), fun h_ => absurd h_ (by decide), fun h_ => absurd h_ (by decide)⟩
   ·skip
    clear BK533 BK534 BK543 BK544 HB HI537
    refine steps_cons ?_ ?_
    ·rintro b a w' ⟨v546, adz_v546, m5_, ha, Q_BK533, Q_BK534, Q_BK543, Q_BK544, Q_HI537, Q_HB, Q_HO547, Q_HA_HO547, Q_HI537_e4, Q_HI537_e8, Q_BK533_e9, Q_BK534_e10, Q_X5_⟩ hb_ hon hoff
     refine ⟨_, rfl, fun K hK => ?_⟩
     have e7 : a.tmps[7]? = some (.pointer (some ⟨gb543, 0, none⟩)) := by rw [ha]; exact (putSel_off rfl).trans rfl
     replace ha := Aside0.mk ha
     have BK533 := Aside0.mk (Q_BK533 (hoff 9 (by kernel_rfl)))
     have BK534 := Aside0.mk (Q_BK534 (hoff 10 (by kernel_rfl)))
     have BK543 := Aside0.mk Q_BK543
     have BK544 := Aside0.mk Q_BK544
     have HB := Aside0.mk Q_HB
     have hc0_ : w'.cell? ⟨gb543, 0, none⟩ = some (.int .i64 t538) := (blk_cell BK543.out 0).trans rfl
     have hc1_ : w'.cell? ⟨gb543, 1, none⟩ = some (.int .i64 t539) := (blk_cell BK543.out 1).trans rfl
     refine value_ (w1 := w') (v := .agg #[.int .i64 t538, .int .i64 t539]) (by rfl) rfl ?_ ?_
     ·go_simp
      (try simp only [i64_w])
      try rfl
     refine hK.out _ _ ⟨v546, adz_v546, m5_, (by rw [ha.out]; exact putSel_upk 0 hb_ rfl rfl rfl), Q_BK533, Q_BK534, Q_BK543, Q_BK544, Q_HI537, Q_HB, Q_HO547, Q_HA_HO547, Q_HI537_e4, Q_HI537_e8, fun h0_ => absurd ((hoff 9 (by kernel_rfl)).symm.trans h0_) (by decide), fun h0_ => absurd ((hoff 10 (by kernel_rfl)).symm.trans h0_) (by decide), Q_X5_⟩
    refine steps_cons ?_ ?_
    ·rintro b a w' ⟨v546, adz_v546, m5_, ha, Q_BK533, Q_BK534, Q_BK543, Q_BK544, Q_HI537, Q_HB, Q_HO547, Q_HA_HO547, Q_HI537_e4, Q_HI537_e8, Q_BK533_e9, Q_BK534_e10, Q_X5_⟩ hb_ hon hoff
     refine ⟨_, rfl, fun K hK => ?_⟩
     have e8 : a.tmps[8]? = some (.pointer (some ⟨gb544, 0, none⟩)) := by rw [ha]; exact (putSel_off rfl).trans rfl
     replace ha := Aside0.mk ha
     have BK534 := Aside0.mk (Q_BK534 (hoff 10 (by kernel_rfl)))
     have BK543 := Aside0.mk Q_BK543
     have BK544 := Aside0.mk Q_BK544
     have HB := Aside0.mk Q_HB
     have hc0_ : w'.cell? ⟨gb544, 0, none⟩ = some (.int .i64 t540) := (blk_cell BK544.out 0).trans rfl
     have hc1_ : w'.cell? ⟨gb544, 1, none⟩ = some (.int .i64 t541) := (blk_cell BK544.out 1).trans rfl
     refine value_ (w1 := w') (v := .agg #[.int .i64 t540, .int .i64 t541]) (by rfl) rfl ?_ ?_
     ·go_simp
      (try simp only [i64_w])
      try rfl
     refine hK.out _ _ ⟨v546, adz_v546, m5_, (by rw [ha.out]; exact putSel_upk 1 hb_ rfl rfl rfl), Q_BK533, Q_BK534, Q_BK543, Q_BK544, Q_HI537, Q_HB, Q_HO547, Q_HA_HO547, Q_HI537_e4, Q_HI537_e8, Q_BK533_e9, fun h0_ => absurd ((hoff 10 (by kernel_rfl)).symm.trans h0_) (by decide), Q_X5_⟩
    refine steps_cons ?_ ?_
    ·rintro b a w' ⟨v546, adz_v546, m5_, ha, Q_BK533, Q_BK534, Q_BK543, Q_BK544, Q_HI537, Q_HB, Q_HO547, Q_HA_HO547, Q_HI537_e4, Q_HI537_e8, Q_BK533_e9, Q_BK534_e10, Q_X5_⟩ hb_ hon hoff
     refine ⟨_, rfl, fun K hK => ?_⟩
     replace ha := Aside0.mk ha
     have BK543 := Aside0.mk Q_BK543
     have BK544 := Aside0.mk Q_BK544
     have HB := Aside0.mk Q_HB
     refine Kd.R_lit_step (Kd.int .i64) _ 3 ?hg (N := 18) ?hd (xs := ([100, 6000, 360000, 1, 0] : List Int)) (inner := [.int .i64 100, .int .i64 6000, .int .i64 360000, .int .i64 1, .int .i64 0]) (ok := fun _ => True) (okp := fun _ => True) ?hr ?hp (fun _ hk => hk) trivial (Below.refl _ _) (Nat.le_refl _) (by simp) ?_; (case hd => rfl); (case hg => rfl); (case hr => first | (go_simp; done) | (go_simp; rfl)); (case hp => exact (Reps.one (show Kd.M (Kd.int .i64) _ _ _ 100 [.int .i64 100] from rfl) (Reps.one (show Kd.M (Kd.int .i64) _ _ _ 6000 [.int .i64 6000] from rfl) (Reps.one (show Kd.M (Kd.int .i64) _ _ _ 360000 [.int .i64 360000] from rfl) (Reps.one (show Kd.M (Kd.int .i64) _ _ _ 1 [.int .i64 1] from rfl) (Reps.one (show Kd.M (Kd.int .i64) _ _ _ 0 [.int .i64 0] from rfl) (Reps.none _ _)))))))
     intro v546 w25 ho26 hb hg_ hnew_
     clear hg_ hnew_
     (first | rw [← Ny545.out] at ho26 | (simp only [Int.reduceToNat] at ho26; rw [← Ny545.out] at ho26))
     have n0_ := Aside0.mk (Kd.R_lower ho26 (below_size (hzs HB)))
     have n4_ := bb (bk BK543) hb
     have n5_ := bb (bk BK544) hb
     have n6_ := hbb (hzs HB) hb
     have z_BK533 := fun (h0_ : b 9 = false) => (show w25.heap[gb533]? = some (.cells #[.int .i64 0, .int .i64 0] 24 (0, 0)) from by first | exact (blk_below (g := gb533) (o := .cells #[.int .i64 0, .int .i64 0] 24 (0, 0)) (by (with_reducible repeat (first | refine blk_drewN ?_ _ | refine blk_drew ?_ | refine blk_alloc ?_ _)); exact (Q_BK533 h0_)) hb))
     have z_BK534 := fun (h0_ : b 10 = false) => (show w25.heap[gb534]? = some (.cells #[.int .i64 0, .int .i64 0] 24 (0, 0)) from by first | exact (blk_below (g := gb534) (o := .cells #[.int .i64 0, .int .i64 0] 24 (0, 0)) (by (with_reducible repeat (first | refine blk_drewN ?_ _ | refine blk_drew ?_ | refine blk_alloc ?_ _)); exact (Q_BK534 h0_)) hb))
     have z_HI537 := fun (h0_ : b 4 = false) => (show IsS80 w w25 g537 t535 t542 from by first | exact (IsS80.below (by repeat (first | (with_reducible first | exact (Q_HI537 h0_) | apply IsS80.alloc | apply IsS80.drewN | apply IsS80.drew | apply IsS80.set_1 | refine IsS80.far ?_ NB537_533.out _ | refine IsS80.far ?_ NB537_534.out _ | refine IsS80.far ?_ NB537_543.out _ | refine IsS80.far ?_ NB537_544.out _) | exact (Q_HI537 h0_))) hb))
     have z_HI537_e4 := fun (h0_ : b 4 = true) (h1_ : b 8 = false) => (show IsS80 w w25 g537 t535 t549 from by first | exact (IsS80.below (by repeat (first | (with_reducible first | exact (Q_HI537_e4 h0_ h1_) | apply IsS80.alloc | apply IsS80.drewN | apply IsS80.drew | apply IsS80.set_1 | refine IsS80.far ?_ NB537_533.out _ | refine IsS80.far ?_ NB537_534.out _ | refine IsS80.far ?_ NB537_543.out _ | refine IsS80.far ?_ NB537_544.out _) | exact (Q_HI537_e4 h0_ h1_))) hb))
     have z_HI537_e8 := fun (h0_ : b 8 = true) => (show IsS80 w w25 g537 t535 t552 from by first | exact (IsS80.below (by repeat (first | (with_reducible first | exact (Q_HI537_e8 h0_) | apply IsS80.alloc | apply IsS80.drewN | apply IsS80.drew | apply IsS80.set_1 | refine IsS80.far ?_ NB537_533.out _ | refine IsS80.far ?_ NB537_534.out _ | refine IsS80.far ?_ NB537_543.out _ | refine IsS80.far ?_ NB537_544.out _) | exact (Q_HI537_e8 h0_))) hb))
     have z_BK533_e9 := fun (h0_ : b 9 = true) => (show w25.heap[gb533]? = some (.cells #[.int .i64 t538, .int .i64 t539] 24 (0, 0)) from by first | exact (blk_below (g := gb533) (o := .cells #[.int .i64 t538, .int .i64 t539] 24 (0, 0)) (by (with_reducible repeat (first | refine blk_drewN ?_ _ | refine blk_drew ?_ | refine blk_alloc ?_ _)); exact (Q_BK533_e9 h0_)) hb))
     have z_BK534_e10 := fun (h0_ : b 10 = true) => (show w25.heap[gb534]? = some (.cells #[.int .i64 t540, .int .i64 t541] 24 (0, 0)) from by first | exact (blk_below (g := gb534) (o := .cells #[.int .i64 t540, .int .i64 t541] 24 (0, 0)) (by (with_reducible repeat (first | refine blk_drewN ?_ _ | refine blk_drew ?_ | refine blk_alloc ?_ _)); exact (Q_BK534_e10 h0_)) hb))
     clear BK543
     clear BK544
     clear HB
     have HO547 := n0_
     have BK543 := n4_
     have BK544 := n5_
     have HB := n6_
     clear n0_ n4_ n5_ n6_
     clear hb ho26
     obtain ⟨Ao27, co27, eo27⟩ := Kd.R_slice HO547.out
     subst eo27
     obtain ⟨ado27, fo27, _⟩ := Kd.at_int (Kd.R_reads' HO547.out).2.2 0 (by decide) (by rw [Ny545.out]; simp)
     cases fo27
     refine hK.out _ _ ⟨.slice (some ado27) y545.length co27, ado27, m5_, (by rw [ha.out]; exact putSel_upk 2 hb_ rfl rfl rfl), z_BK533, z_BK534, (bk BK543), (bk BK544), z_HI537, (hzs HB), fun _ => (by (with_reducible repeat (first | apply Kd.R_alloc | apply Kd.R_drewN | apply Kd.R_drew)); exact HO547.out), fun _ => ⟨_, rfl⟩, z_HI537_e4, z_HI537_e8, z_BK533_e9, z_BK534_e10, fun h0_ => absurd ((hoff 5 (by kernel_rfl)).symm.trans h0_) (by decide)⟩
    refine steps_cons ?_ ?_
    ·rintro b a w' ⟨v546, adz_v546, m5_, ha, Q_BK533, Q_BK534, Q_BK543, Q_BK544, Q_HI537, Q_HB, Q_HO547, Q_HA_HO547, Q_HI537_e4, Q_HI537_e8, Q_BK533_e9, Q_BK534_e10, Q_X5_⟩ hb_ hon hoff
     refine ⟨_, rfl, fun K hK => ?_⟩
     have e19 : a.tmps[19]? = some (.pointer (some ⟨g537, 0, none⟩)) := by rw [ha]; exact (putSel_off rfl).trans rfl
     replace ha := Aside0.mk ha
     have BK533 := Aside0.mk (Q_BK533 (hoff 9 (by kernel_rfl)))
     have BK534 := Aside0.mk (Q_BK534 (hoff 10 (by kernel_rfl)))
     have BK543 := Aside0.mk Q_BK543
     have BK544 := Aside0.mk Q_BK544
     have HI537 := Aside0.mk (Q_HI537 hb_)
     have HB := Aside0.mk Q_HB
     refine goes_ Try.func53 (by kernel_rfl) rfl #[.pointer (some ⟨g537, 0, none⟩), .int .i64 5] (by rfl) rfl rfl (by first | (simp only [List.map_toArray, List.map_cons, List.map_nil, Act.eval, Array.getD_eq_getD_getElem?, Option.getD_some, e19]; done) | (simp only [List.map_toArray, List.map_cons, List.map_nil, Act.eval, Array.getD_eq_getD_getElem?, Option.getD_some, e19]; rfl)) ?_
     with_reducible refine (spec_l6Rd_pick.calls k g537 t535 t542 5 t548 t549 w _ ?side1 ?side2 A4.out).mono ?_
     (case side1 => exact IsS80.go_ HI537)
     (case side2 => exact hzI HB)
     rintro e w25 ⟨rfl, hi, hb, hk⟩
     refine ⟨_, rfl, ?_⟩
     have n0_ := kb hk (bk BK533) NB533_537
     have n1_ := kb hk (bk BK534) NB534_537
     have n2_ := kb hk (bk BK543) NB543_537
     have n3_ := kb hk (bk BK544) NB544_537
     have n4_ := Aside0.mk (hb)
     have n5_ := Aside0.mk (hi)
     have z_HO547 := fun (h0_ : b 2 = true) => (show Kd.R (Kd.int .i64) 3 w25 w.heap.size (fun _ => True) v546 y545 from by first | exact (Kd.R_mono (Kd.R_keep (IsS80.apart (show IsS80 w _ g537 t535 t542 from IsS80.go_ HI537) (by (with_reducible repeat (first | apply Kd.R_alloc | apply Kd.R_drewN | apply Kd.R_drew)); exact (Q_HO547 h0_)) (by decide)) hk (fun _ h => h.2)) (fun _ h => h.1)) | exact Kd.R_mono (Kd.R_mono (Kd.R_keep (IsS80.apart (show IsS80 w _ g537 t535 t542 from IsS80.go_ HI537) (by (with_reducible repeat (first | apply Kd.R_alloc | apply Kd.R_drewN | apply Kd.R_drew)); exact (Q_HO547 h0_)) (by decide)) hk (fun _ h => h.2)) (fun _ h => h.1)) (fun _ h_ => by first | trivial | exact h_ | exact h_.1))
     clear BK533
     clear BK534
     clear BK543
     clear BK544
     clear HB
     clear HI537
     have BK533 := n0_
     have BK534 := n1_
     have BK543 := n2_
     have BK544 := n3_
     have HB := n4_
     have HI537 := n5_
     clear n0_ n1_ n2_ n3_ n4_ n5_
     clear hi hb hk
     refine hK.out _ _ ⟨v546, adz_v546, m5_, (by rw [ha.out]; exact putSel_upk 3 hb_ rfl rfl rfl), fun _ => (bk BK533), fun _ => (bk BK534), (bk BK543), (bk BK544), fun h0_ => absurd ((up_self b 4).symm.trans h0_) (by decide), (hzI HB), z_HO547, Q_HA_HO547, fun _ _ => (IsS80.go_ HI537), fun h0_ => absurd ((hoff 8 (by kernel_rfl)).symm.trans h0_) (by decide), fun h0_ => absurd ((hoff 9 (by kernel_rfl)).symm.trans h0_) (by decide), fun h0_ => absurd ((hoff 10 (by kernel_rfl)).symm.trans h0_) (by decide), fun h0_ => absurd ((hoff 5 (by kernel_rfl)).symm.trans h0_) (by decide)⟩
    refine steps_cons ?_ ?_
    ·rintro b a w' ⟨v546, adz_v546, m5_, ha, Q_BK533, Q_BK534, Q_BK543, Q_BK544, Q_HI537, Q_HB, Q_HO547, Q_HA_HO547, Q_HI537_e4, Q_HI537_e8, Q_BK533_e9, Q_BK534_e10, Q_X5_⟩ hb_ hon hoff
     refine ⟨_, rfl, fun K hK => ?_⟩
     have e18 : a.tmps[18]? = some (v546) := by rw [ha]; exact putSel_on (e := (2, 18, v546)) 2 rfl rfl (hon 2 (by kernel_rfl)) rfl
     have e20 : a.tmps[20]? = some (.int .i64 t548) := by rw [ha]; exact putSel_on (e := (4, 20, .int .i64 t548)) 3 rfl rfl (hon 4 (by kernel_rfl)) rfl
     replace ha := Aside0.mk ha
     have BK543 := Aside0.mk Q_BK543
     have BK544 := Aside0.mk Q_BK544
     have HB := Aside0.mk Q_HB
     have HO547 := Aside0.mk (Q_HO547 (hon 2 (by kernel_rfl)))
     have HA_HO547 := Aside0.mk (Q_HA_HO547 (hon 2 (by kernel_rfl)))
     obtain ⟨c_, hv_⟩ := HA_HO547.out
     rw [hv_] at e18
     refine value_ (w1 := w') (v := .pointer (some (adz_v546.add (t548).toNat))) (by rfl) rfl ?_ ?_
     ·go_simp
      (try simp only [i64_w])
      try rfl
     refine hK.out _ _ ⟨v546, adz_v546, (.pointer (some (adz_v546.add (t548).toNat))), (by rw [ha.out]; exact putSel_upk 4 hb_ rfl rfl rfl), Q_BK533, Q_BK534, Q_BK543, Q_BK544, fun h0_ => absurd ((hon 4 (by kernel_rfl)).symm.trans h0_) (by decide), Q_HB, Q_HO547, Q_HA_HO547, Q_HI537_e4, Q_HI537_e8, Q_BK533_e9, Q_BK534_e10, fun _ => rfl⟩
    refine steps_cons ?_ ?_
    ·rintro b a w' ⟨v546, adz_v546, m5_, ha, Q_BK533, Q_BK534, Q_BK543, Q_BK544, Q_HI537, Q_HB, Q_HO547, Q_HA_HO547, Q_HI537_e4, Q_HI537_e8, Q_BK533_e9, Q_BK534_e10, Q_X5_⟩ hb_ hon hoff
     refine ⟨_, rfl, fun K hK => ?_⟩
     have e21 : a.tmps[21]? = some (m5_) := by rw [ha]; exact putSel_on (e := (5, 21, m5_)) 4 rfl rfl (hon 5 (by kernel_rfl)) rfl
     rw [Q_X5_ (hon 5 (by kernel_rfl))] at e21
     replace ha := Aside0.mk ha
     have BK543 := Aside0.mk Q_BK543
     have BK544 := Aside0.mk Q_BK544
     have HB := Aside0.mk Q_HB
     have HO547 := Aside0.mk (Q_HO547 (hon 2 (by kernel_rfl)))
     have HA_HO547 := Aside0.mk (Q_HA_HO547 (hon 2 (by kernel_rfl)))
     obtain ⟨c_, hv_⟩ := HA_HO547.out
     have hF_ := HO547.out
     rw [hv_] at hF_
     obtain ⟨ad_, ea_, hx_⟩ := Kd.at_int (Kd.R_reads' hF_).2.2 t548 (of_eq_true pi550) (of_eq_true qi550)
     cases ea_
     refine value_ (w1 := w') (v := .int .i64 (rd y545 t548)) (by rfl) rfl ?_ ?_
     ·go_simp
      (try simp only [i64_w])
      try rfl
     refine hK.out _ _ ⟨v546, adz_v546, m5_, (by rw [ha.out]; exact putSel_upk 5 hb_ rfl rfl rfl), Q_BK533, Q_BK534, Q_BK543, Q_BK544, fun h0_ => absurd ((hon 4 (by kernel_rfl)).symm.trans h0_) (by decide), Q_HB, Q_HO547, Q_HA_HO547, Q_HI537_e4, Q_HI537_e8, Q_BK533_e9, Q_BK534_e10, Q_X5_⟩
    refine steps_cons ?_ ?_
    ·rintro b a w' ⟨v546, adz_v546, m5_, ha, Q_BK533, Q_BK534, Q_BK543, Q_BK544, Q_HI537, Q_HB, Q_HO547, Q_HA_HO547, Q_HI537_e4, Q_HI537_e8, Q_BK533_e9, Q_BK534_e10, Q_X5_⟩ hb_ hon hoff
     refine ⟨_, rfl, fun K hK => ?_⟩
     have e23 : a.tmps[23]? = some (.pointer (some ⟨g537, 0, none⟩)) := by rw [ha]; exact (putSel_off rfl).trans rfl
     replace ha := Aside0.mk ha
     have BK533 := Aside0.mk (Q_BK533 (hoff 9 (by kernel_rfl)))
     have BK534 := Aside0.mk (Q_BK534 (hoff 10 (by kernel_rfl)))
     have BK543 := Aside0.mk Q_BK543
     have BK544 := Aside0.mk Q_BK544
     have HB := Aside0.mk Q_HB
     have HI537 := Aside0.mk (Q_HI537_e4 (hon 4 (by kernel_rfl)) hb_)
     refine goes_ Try.func66 (by kernel_rfl) rfl #[.pointer (some ⟨g537, 0, none⟩)] (by rfl) rfl rfl (by first | (simp only [List.map_toArray, List.map_cons, List.map_nil, Act.eval, Array.getD_eq_getD_getElem?, Option.getD_some, e23]; done) | (simp only [List.map_toArray, List.map_cons, List.map_nil, Act.eval, Array.getD_eq_getD_getElem?, Option.getD_some, e23]; rfl)) ?_
     with_reducible refine (spec_l71Way.calls k g537 t535 t549 t551 t552 w _ ?side1 ?side2 A7.out).mono ?_
     (case side1 => exact IsS80.go_ HI537)
     (case side2 => exact hzI HB)
     rintro e w27 ⟨rfl, hi, hb, hk⟩
     refine ⟨_, rfl, ?_⟩
     have n0_ := kb hk (bk BK533) NB533_537
     have n1_ := kb hk (bk BK534) NB534_537
     have n2_ := kb hk (bk BK543) NB543_537
     have n3_ := kb hk (bk BK544) NB544_537
     have n4_ := Aside0.mk (hb)
     have n5_ := Aside0.mk (hi)
     have z_HO547 := fun (h0_ : b 2 = true) => (show Kd.R (Kd.int .i64) 3 w27 w.heap.size (fun _ => True) v546 y545 from by first | exact (Kd.R_mono (Kd.R_keep (IsS80.apart (show IsS80 w _ g537 t535 t549 from IsS80.go_ HI537) (by (with_reducible repeat (first | apply Kd.R_alloc | apply Kd.R_drewN | apply Kd.R_drew)); exact (Q_HO547 h0_)) (by decide)) hk (fun _ h => h.2)) (fun _ h => h.1)) | exact Kd.R_mono (Kd.R_mono (Kd.R_keep (IsS80.apart (show IsS80 w _ g537 t535 t549 from IsS80.go_ HI537) (by (with_reducible repeat (first | apply Kd.R_alloc | apply Kd.R_drewN | apply Kd.R_drew)); exact (Q_HO547 h0_)) (by decide)) hk (fun _ h => h.2)) (fun _ h => h.1)) (fun _ h_ => by first | trivial | exact h_ | exact h_.1))
     clear BK533
     clear BK534
     clear BK543
     clear BK544
     clear HB
     clear HI537
     have BK533 := n0_
     have BK534 := n1_
     have BK543 := n2_
     have BK544 := n3_
     have HB := n4_
     have HI537 := n5_
     clear n0_ n1_ n2_ n3_ n4_ n5_
     clear hi hb hk
     refine hK.out _ _ ⟨v546, adz_v546, m5_, (by rw [ha.out]; exact putSel_upk 6 hb_ rfl rfl rfl), fun _ => (bk BK533), fun _ => (bk BK534), (bk BK543), (bk BK544), fun h0_ => absurd ((hon 4 (by kernel_rfl)).symm.trans h0_) (by decide), (hzI HB), z_HO547, Q_HA_HO547, fun _ h1_ => absurd ((up_self b 8).symm.trans h1_) (by decide), fun _ => (IsS80.go_ HI537), fun h0_ => absurd ((hoff 9 (by kernel_rfl)).symm.trans h0_) (by decide), fun h0_ => absurd ((hoff 10 (by kernel_rfl)).symm.trans h0_) (by decide), Q_X5_⟩
    refine steps_cons ?_ ?_
    ·rintro b a w' ⟨v546, adz_v546, m5_, ha, Q_BK533, Q_BK534, Q_BK543, Q_BK544, Q_HI537, Q_HB, Q_HO547, Q_HA_HO547, Q_HI537_e4, Q_HI537_e8, Q_BK533_e9, Q_BK534_e10, Q_X5_⟩ hb_ hon hoff
     refine ⟨_, rfl, fun K hK => ?_⟩
     have e2 : a.tmps[2]? = some (.pointer (some ⟨gb533, 0, none⟩)) := by rw [ha]; exact (putSel_off rfl).trans rfl
     have e16 : a.tmps[16]? = some (.agg #[.int .i64 t538, .int .i64 t539]) := by rw [ha]; exact putSel_on (e := (0, 16, .agg #[.int .i64 t538, .int .i64 t539])) 0 rfl rfl (hon 0 (by kernel_rfl)) rfl
     replace ha := Aside0.mk ha
     have BK533 := Aside0.mk (Q_BK533 hb_)
     have BK534 := Aside0.mk (Q_BK534 (hoff 10 (by kernel_rfl)))
     have BK543 := Aside0.mk Q_BK543
     have BK544 := Aside0.mk Q_BK544
     have HB := Aside0.mk Q_HB
     have HI537 := Aside0.mk (Q_HI537_e8 (hon 8 (by kernel_rfl)))
     have hs28 : w'.cell? ⟨gb533, 0, none⟩ = some (.int .i64 0) := (blk_cell BK533.out 0).trans rfl
     have hfs28 := blk_frozen BK533.out 0
     have hns28_1 := NB534_533.out
     have hns28_2 := NB543_533.out
     have hns28_3 := NB544_533.out
     have hms28_1 := NB533_534.out
     have hms28_2 := NB533_543.out
     have hms28_3 := NB533_544.out
     have hs29 : w'.cell? ⟨gb533, 1, none⟩ = some (.int .i64 0) := (blk_cell BK533.out 1).trans rfl
     have hfs29 := blk_frozen BK533.out 1
     have hns29_1 := NB534_533.out
     have hns29_2 := NB543_533.out
     have hns29_3 := NB544_533.out
     have hms29_1 := NB533_534.out
     have hms29_2 := NB533_543.out
     have hms29_3 := NB533_544.out
     refine skip_ (w1 := ?_) (by rfl) rfl ?_ ?_
     rotate_left
     ·go_simp
      rfl
     refine hK.out _ _ ⟨v546, adz_v546, m5_, (by rw [ha.out]; exact putSel_none (v := undef) rfl), fun h0_ => absurd ((up_self b 9).symm.trans h0_) (by decide), fun _ => (bk1 BK534 NB534_533), (bk1 BK543 NB543_533), (bk1 BK544 NB544_533), fun h0_ => absurd ((hon 4 (by kernel_rfl)).symm.trans h0_) (by decide), (hzI HB), fun h0_ => (by (with_reducible repeat (first | apply Kd.R_alloc | apply Kd.R_drewN | apply Kd.R_drew)); exact Kd.R_mono (Kd.R_far (p := ⟨gb533, 1, none⟩) (Kd.R_far (p := ⟨gb533, 0, none⟩) (Kd.R_types (Q_HO547 h0_) BK533.out (by decide)) (fun _ hk => hk.2) (.int .i64 t538)) (fun _ hk => hk.2) (.int .i64 t539)) (fun _ hk => trivial)), Q_HA_HO547, fun _ h1_ => absurd ((hon 8 (by kernel_rfl)).symm.trans h1_) (by decide), fun _ => (IsS80.go_ HI537), fun _ => (bkp BK533), fun h0_ => absurd ((hoff 10 (by kernel_rfl)).symm.trans h0_) (by decide), Q_X5_⟩
    refine steps_cons ?_ ?_
    ·rintro b a w' ⟨v546, adz_v546, m5_, ha, Q_BK533, Q_BK534, Q_BK543, Q_BK544, Q_HI537, Q_HB, Q_HO547, Q_HA_HO547, Q_HI537_e4, Q_HI537_e8, Q_BK533_e9, Q_BK534_e10, Q_X5_⟩ hb_ hon hoff
     refine ⟨_, rfl, fun K hK => ?_⟩
     have e3 : a.tmps[3]? = some (.pointer (some ⟨gb534, 0, none⟩)) := by rw [ha]; exact (putSel_off rfl).trans rfl
     have e17 : a.tmps[17]? = some (.agg #[.int .i64 t540, .int .i64 t541]) := by rw [ha]; exact putSel_on (e := (1, 17, .agg #[.int .i64 t540, .int .i64 t541])) 1 rfl rfl (hon 1 (by kernel_rfl)) rfl
     replace ha := Aside0.mk ha
     have BK534 := Aside0.mk (Q_BK534 hb_)
     have BK543 := Aside0.mk Q_BK543
     have BK544 := Aside0.mk Q_BK544
     have HB := Aside0.mk Q_HB
     have HI537 := Aside0.mk (Q_HI537_e8 (hon 8 (by kernel_rfl)))
     have BK533 := Aside0.mk (Q_BK533_e9 (hon 9 (by kernel_rfl)))
     have hs30 : w'.cell? ⟨gb534, 0, none⟩ = some (.int .i64 0) := (blk_cell BK534.out 0).trans rfl
     have hfs30 := blk_frozen BK534.out 0
     have hns30_0 := NB533_534.out
     have hns30_2 := NB543_534.out
     have hns30_3 := NB544_534.out
     have hms30_0 := NB534_533.out
     have hms30_2 := NB534_543.out
     have hms30_3 := NB534_544.out
     have hs31 : w'.cell? ⟨gb534, 1, none⟩ = some (.int .i64 0) := (blk_cell BK534.out 1).trans rfl
     have hfs31 := blk_frozen BK534.out 1
     have hns31_0 := NB533_534.out
     have hns31_2 := NB543_534.out
     have hns31_3 := NB544_534.out
     have hms31_0 := NB534_533.out
     have hms31_2 := NB534_543.out
     have hms31_3 := NB534_544.out
     refine skip_ (w1 := ?_) (by rfl) rfl ?_ ?_
     rotate_left
     ·go_simp
      rfl
     refine hK.out _ _ ⟨v546, adz_v546, m5_, (by rw [ha.out]; exact putSel_none (v := undef) rfl), fun h0_ => absurd ((hon 9 (by kernel_rfl)).symm.trans h0_) (by decide), fun h0_ => absurd ((up_self b 10).symm.trans h0_) (by decide), (bk1 BK543 NB543_534), (bk1 BK544 NB544_534), fun h0_ => absurd ((hon 4 (by kernel_rfl)).symm.trans h0_) (by decide), (hzI HB), fun h0_ => (by (with_reducible repeat (first | apply Kd.R_alloc | apply Kd.R_drewN | apply Kd.R_drew)); exact Kd.R_mono (Kd.R_far (p := ⟨gb534, 1, none⟩) (Kd.R_far (p := ⟨gb534, 0, none⟩) (Kd.R_types (Q_HO547 h0_) BK534.out (by decide)) (fun _ hk => hk.2) (.int .i64 t540)) (fun _ hk => hk.2) (.int .i64 t541)) (fun _ hk => trivial)), Q_HA_HO547, fun _ h1_ => absurd ((hon 8 (by kernel_rfl)).symm.trans h1_) (by decide), fun _ => (IsS80.go_ HI537), fun _ => (bk1 BK533 NB533_534), fun _ => (bkp BK534), Q_X5_⟩
    refine steps_cons ?_ ?_
    ·rintro b a w' ⟨v546, adz_v546, m5_, ha, Q_BK533, Q_BK534, Q_BK543, Q_BK544, Q_HI537, Q_HB, Q_HO547, Q_HA_HO547, Q_HI537_e4, Q_HI537_e8, Q_BK533_e9, Q_BK534_e10, Q_X5_⟩ hb_ hon hoff
     refine ⟨_, rfl, fun K hK => ?_⟩
     have e22 : a.tmps[22]? = some (.int .i64 (rd y545 t548)) := by rw [ha]; exact putSel_on (e := (6, 22, .int .i64 (rd y545 t548))) 5 rfl rfl (hon 6 (by kernel_rfl)) rfl
     replace ha := Aside0.mk ha
     have BK543 := Aside0.mk Q_BK543
     have BK544 := Aside0.mk Q_BK544
     have HB := Aside0.mk Q_HB
     have HO547 := Aside0.mk (Q_HO547 (hon 2 (by kernel_rfl)))
     have HA_HO547 := Aside0.mk (Q_HA_HO547 (hon 2 (by kernel_rfl)))
     have HI537 := Aside0.mk (Q_HI537_e8 (hon 8 (by kernel_rfl)))
     have BK533 := Aside0.mk (Q_BK533_e9 (hon 9 (by kernel_rfl)))
     have BK534 := Aside0.mk (Q_BK534_e10 (hon 10 (by kernel_rfl)))
     refine value_ (w1 := w') (v := .int .i64 (rd y545 t548)) (by rfl) rfl ?_ ?_
     ·go_simp
      (try simp only [i64_w])
      try rfl
     refine hK.out _ _ ⟨v546, adz_v546, m5_, (by rw [ha.out]; exact putSel_upk 7 hb_ rfl rfl rfl), fun h0_ => absurd ((hon 9 (by kernel_rfl)).symm.trans h0_) (by decide), fun h0_ => absurd ((hon 10 (by kernel_rfl)).symm.trans h0_) (by decide), Q_BK543, Q_BK544, fun h0_ => absurd ((hon 4 (by kernel_rfl)).symm.trans h0_) (by decide), Q_HB, Q_HO547, Q_HA_HO547, fun _ h1_ => absurd ((hon 8 (by kernel_rfl)).symm.trans h1_) (by decide), Q_HI537_e8, Q_BK533_e9, Q_BK534_e10, Q_X5_⟩
    refine steps_cons ?_ ?_
    ·rintro b a w' ⟨v546, adz_v546, m5_, ha, Q_BK533, Q_BK534, Q_BK543, Q_BK544, Q_HI537, Q_HB, Q_HO547, Q_HA_HO547, Q_HI537_e4, Q_HI537_e8, Q_BK533_e9, Q_BK534_e10, Q_X5_⟩ hb_ hon hoff
     refine ⟨_, rfl, fun K hK => ?_⟩
     have e24 : a.tmps[24]? = some (.int .i64 t551) := by rw [ha]; exact putSel_on (e := (8, 24, .int .i64 t551)) 6 rfl rfl (hon 8 (by kernel_rfl)) rfl
     replace ha := Aside0.mk ha
     have BK543 := Aside0.mk Q_BK543
     have BK544 := Aside0.mk Q_BK544
     have HB := Aside0.mk Q_HB
     have HO547 := Aside0.mk (Q_HO547 (hon 2 (by kernel_rfl)))
     have HA_HO547 := Aside0.mk (Q_HA_HO547 (hon 2 (by kernel_rfl)))
     have HI537 := Aside0.mk (Q_HI537_e8 (hon 8 (by kernel_rfl)))
     have BK533 := Aside0.mk (Q_BK533_e9 (hon 9 (by kernel_rfl)))
     have BK534 := Aside0.mk (Q_BK534_e10 (hon 10 (by kernel_rfl)))
     refine value_ (w1 := w') (v := .int .i64 t551) (by rfl) rfl ?_ ?_
     ·go_simp
      (try simp only [i64_w])
      try rfl
     refine hK.out _ _ ⟨v546, adz_v546, m5_, (by rw [ha.out]; exact putSel_upk 8 hb_ rfl rfl rfl), fun h0_ => absurd ((hon 9 (by kernel_rfl)).symm.trans h0_) (by decide), fun h0_ => absurd ((hon 10 (by kernel_rfl)).symm.trans h0_) (by decide), Q_BK543, Q_BK544, fun h0_ => absurd ((hon 4 (by kernel_rfl)).symm.trans h0_) (by decide), Q_HB, Q_HO547, Q_HA_HO547, fun _ h1_ => absurd ((hon 8 (by kernel_rfl)).symm.trans h1_) (by decide), Q_HI537_e8, Q_BK533_e9, Q_BK534_e10, Q_X5_⟩
    exact steps_nil
   rintro b a w34 hall ⟨v546, adz_v546, m5_, ha, Q_BK533, Q_BK534, Q_BK543, Q_BK544, Q_HI537, Q_HB, Q_HO547, Q_HA_HO547, Q_HI537_e4, Q_HI537_e8, Q_BK533_e9, Q_BK534_e10, Q_X5_⟩
   clear BK533 BK534 BK543 BK544 HB HI537
   have hb0_ := hall 0 (by kernel_rfl)
   have hb1_ := hall 1 (by kernel_rfl)
   have hb2_ := hall 2 (by kernel_rfl)
   have hb4_ := hall 4 (by kernel_rfl)
   have hb5_ := hall 5 (by kernel_rfl)
   have hb6_ := hall 6 (by kernel_rfl)
   have hb8_ := hall 8 (by kernel_rfl)
   have hb9_ := hall 9 (by kernel_rfl)
   have hb10_ := hall 10 (by kernel_rfl)
   have hb11_ := hall 11 (by kernel_rfl)
   have hb12_ := hall 12 (by kernel_rfl)
   subst ha
   obtain rfl := Q_X5_ hb5_
   simp only [putSel, hb0_, hb1_, hb2_, hb4_, hb5_, hb6_, hb8_, hb9_, hb10_, hb11_, hb12_, if_true, Act.put, List.setIfInBounds_toArray, List.set_cons_zero, List.set_cons_succ]
   clear Q_BK533
   clear Q_BK534
   have BK543 := Aside0.mk Q_BK543
   clear Q_BK543
   have BK544 := Aside0.mk Q_BK544
   clear Q_BK544
   clear Q_HI537
   have HB := Aside0.mk Q_HB
   clear Q_HB
   have HO547 := Aside0.mk (Q_HO547 hb2_)
   clear Q_HO547
   have HA_HO547 := Aside0.mk (Q_HA_HO547 hb2_)
   clear Q_HA_HO547
   clear Q_HI537_e4
   have HI537 := Aside0.mk (Q_HI537_e8 hb8_)
   clear Q_HI537_e8
   have BK533 := Aside0.mk (Q_BK533_e9 hb9_)
   clear Q_BK533_e9
   have BK534 := Aside0.mk (Q_BK534_e10 hb10_)
   clear Q_BK534_e10
   clear hall hb0_ hb1_ hb2_ hb4_ hb5_ hb6_ hb8_ hb9_ hb10_ hb11_ hb12_
   obtain ⟨co35, eo35⟩ := HA_HO547.out
   clear HA_HO547
   subst eo35
   try go_wp2
   refine bodyPost_ret (results_list (rs := [.cell 2 24, .cell 3 24, .tmp 4, .tmp 5]) rfl (by simp) (.cell gb533 24 #[.int .i64 t538, .int .i64 t539] (0, 0) _ rfl (bk BK533) Try.underlying24 rfl (by kernel_rfl) (.cell gb534 24 #[.int .i64 t540, .int .i64 t541] (0, 0) _ rfl (bk BK534) Try.underlying24 rfl (by kernel_rfl) (.tmp (.tmp .nil))))) rfl ?_
   exact ⟨by first | rfl | (simp [errW_none, errW_some] <;> rfl) | (simp [*, errW_none, errW_some] <;> rfl), hzI HB⟩
  ·rw [if_neg c6] at H
   exact absurd H (by simp)
 ·rw [if_neg c5] at H
  exact absurd H (by simp)


end Go.Proofs.Ytmcippkpgmehdaa.M
