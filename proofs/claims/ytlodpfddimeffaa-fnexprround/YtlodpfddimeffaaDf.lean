import Derived.Test.YtlodpfddimeffaaM0
import Derived.Test.YtlodpfddimeffaaDa
import Derived.Test.YtlodpfddimeffaaDg
namespace Go.Proofs.Ytlodpfddimeffaa.M
open Go.RowKit Go.Proofs.YtlodpfddimeffaaW.PrintWords Go.Proofs.YtlodpfddimeffaaW.PrintLast Go.Proofs.YtlodpfddimeffaaW.PrintMore
attribute [local go_sem] max2_int min2_int max_two min_two max_three min_three max_four min_four
attribute [local go_sem high] eqA31
attribute [local go_sem] fld31_0 fld31_1 fld25_0 fld25_1 fld25_2 fld25_3
set_option linter.unusedVariables false
set_option linter.unusedSimpArgs false

/-! ### spec_l71Way: function 39 -/
def spec_l71Way.f (k : Nat) (s0_0 : List Int) (s0_1 : Int) : Option (Int × Int) := (spec_l6Rd_pick.f k s0_0 s0_1 20).bind fun bt385 => (if bt385.1 = 0 then ((some (([0, 5, (-1)] : List Int) : List Int)).bind fun y387 => ((spec_l6Rd_pick.f k s0_0 bt385.2 3).bind fun bt390 => (if 0 ≤ bt390.1 then (if bt390.1 < (y387.length : Int) then (some (rd y387 bt390.1, bt390.2)) else (none)) else (none)))) else ((spec_l6Rd_pick.f k s0_0 bt385.2 4).bind fun bt393 => (some (wrap64 (1 + bt393.1), bt393.2))))
set_option maxHeartbeats 8000000 in
set_option maxRecDepth 100000 in
theorem spec_l71Way.calls (k : Nat) (g : Nat) (s0_0 : List Int) (s0_1 : Int) (r1 : Int) (r2 : Int) (w0 w : World) (hI : IsS72 w0 w g s0_0 s0_1) (hB : Below w0.heap.size w0 w) (h : spec_l71Way.f k s0_0 s0_1 = some (r1, r2)) :
  Calls Try.prog 39 #[.pointer (some ⟨g, 0, none⟩)] w fun e w' => e = .returned (.int .i64 r1) ∧ IsS72 w0 w' g s0_0 r2 ∧ Below w0.heap.size w0 w' ∧ KeepBut w w' g none := by
 have HI0 := Aside0.mk hI
 have HK := Aside0.mk (KeepBut.refl w g none)
 have HL := Aside0.mk hB.size
 clear hI
 have HW0 := Aside0.mk hB.size
 have HB := Aside0.mk hB
 clear hB
 have H := h
 clear h
 unfold spec_l71Way.f at H
 replace H := Option.bind_eq_some_iff.mp H
 obtain ⟨⟨t385, t386⟩, A20, H⟩ := H
 try dsimp only at H
 have A2 := Aside0.mk A20
 clear A20
 by_cases c3 : t385 = 0
 ·rw [if_pos c3] at H
  have c3b0 : (t385 == 0) = true := beq_iff_eq.mpr c3
  have c3b1 : (t385 != 0) = false := bne_eq_false_iff_eq.mpr c3
  clear c3
  obtain ⟨y387, hy387⟩ : ∃ y_ : List Int, y_ = (([0, 5, (-1)] : List Int)) := ⟨_, rfl⟩
  replace H : ((spec_l6Rd_pick.f k s0_0 t386 3).bind fun bt390 => (if 0 ≤ bt390.1 then (if bt390.1 < (y387.length : Int) then (some (rd y387 bt390.1, bt390.2)) else (none)) else (none))) = some (r1, r2) := by first | (rw [hy387]; with_reducible exact H) | (have H2_ := (Option.bind_some _ _).symm.trans H; rw [hy387]; with_reducible exact H2_) | (have H2_ := (Option.bind_some _ _).symm.trans H; with_reducible exact H2_) | with_reducible exact H | (rw [hy387]; exact H) | exact H
  have Ny387 := Aside0.mk hy387
  clear hy387
  replace H := Option.bind_eq_some_iff.mp H
  obtain ⟨⟨t390, t391⟩, A40, H⟩ := H
  try dsimp only at H
  have A4 := Aside0.mk A40
  clear A40
  by_cases c5 : 0 ≤ t390
  ·rw [if_pos c5] at H
   have c5b0 : decide (0 ≤ t390) = true := decide_eq_true c5
   clear c5
   by_cases c6 : t390 < (y387.length : Int)
   ·rw [if_pos c6] at H
    have c6b0 : decide (t390 < (y387.length : Int)) = true := decide_eq_true c6
    clear c6
    simp only [Option.some.injEq, Prod.mk.injEq] at H
    obtain ⟨rfl, rfl⟩ := H
    go_enter Try.func39, Try.ntmps39
    go_wp2_with (first | ((with_reducible refine gate_callee (f := 38) rfl ?_); refine gL 4 Try.func38 #[.pointer (some ⟨g, 0, none⟩), .int .i64 20] ?_; (with_reducible refine (spec_l6Rd_pick.calls k g s0_0 s0_1 20 t385 t386 w0 _ ?side1 ?side2 A2.out).mono ?_); (case side1 => exact IsS72.go_ HI0); (case side2 => exact hzI HB); rintro e w7 ⟨rfl, hi, hb, hk⟩; refine ⟨_, rfl, ?_⟩; replace HK := Aside0.mk (KeepBut.trans (hzk HK) hk (.inl rfl)); replace HB := Aside0.mk (hb); replace HI0 := Aside0.mk (hi); clear hi hb hk) | ((with_reducible refine gate_dst (N := 6) rfl ?_); refine Kd.R_lit (Kd.int .i64) _ 3 ?hg (N := 6) ?hd (xs := ([0, 5, (-1)] : List Int)) (inner := [.int .i64 0, .int .i64 5, .int .i64 (-1)]) (ok := fun _ => True) (okp := fun _ => True) ?hr ?hp (fun _ hk => hk) trivial (Below.refl _ _) (Nat.le_refl _) (by simp) ?_; (case hd => rfl); (case hg => rfl); (case hr => first | (go_simp; done) | (go_simp; rfl)); (case hp => exact (Reps.one (show Kd.M (Kd.int .i64) _ _ _ 0 [.int .i64 0] from rfl) (Reps.one (show Kd.M (Kd.int .i64) _ _ _ 5 [.int .i64 5] from rfl) (Reps.one (show Kd.M (Kd.int .i64) _ _ _ (-1) [.int .i64 (-1)] from rfl) (Reps.none _ _))))); intro v388 w8 ho9 hb hg_ hnew_; clear hg_ hnew_; (first | rw [← Ny387.out] at ho9 | (simp only [Int.reduceToNat] at ho9; rw [← Ny387.out] at ho9)); have HO389 := Aside0.mk (Kd.R_lower ho9 (keep_size (w := w) (g := g) (row := none) (hzk HK))); replace HI0 := Aside0.mk (IsS72.below (IsS72.go_ HI0) hb); replace HK := Aside0.mk (KeepBut.trans (hzk HK) (KeepBut.of_below hb g none) (.inl rfl)); replace HB := hbb (hzI HB) hb; clear hb ho9) | ((with_reducible refine gate_callee (f := 38) rfl ?_); refine gL 8 Try.func38 #[.pointer (some ⟨g, 0, none⟩), .int .i64 3] ?_; (with_reducible refine (spec_l6Rd_pick.calls k g s0_0 t386 3 t390 t391 w0 _ ?side1 ?side2 A4.out).mono ?_); (case side1 => exact IsS72.go_ HI0); (case side2 => exact hzI HB); rintro e w10 ⟨rfl, hi, hb, hk⟩; refine ⟨_, rfl, ?_⟩; replace HO389 := Aside0.mk (Kd.R_mono (Kd.R_keep (IsS72.apart (show IsS72 w0 _ g s0_0 t386 from IsS72.go_ HI0) (by (with_reducible repeat (first | apply Kd.R_alloc | apply Kd.R_drewN | apply Kd.R_drew)); exact HO389.out) (by decide)) hk (fun _ h => h.2)) (fun _ h => h.1)); replace HK := Aside0.mk (KeepBut.trans (hzk HK) hk (.inl rfl)); replace HB := Aside0.mk (hb); replace HI0 := Aside0.mk (hi); clear hi hb hk; obtain ⟨Ao11, co11, eo11⟩ := Kd.R_slice HO389.out; subst eo11; have p392 : 0 ≤ (t390 : Int) := of_decide_eq_true (by first | (with_reducible assumption) | assumption); have q392 : t390 < (y387.length : Int) := of_decide_eq_true (by first | (with_reducible assumption) | assumption); obtain ⟨ad392, e392, hx392_0⟩ := Kd.at_int (Kd.R_reads' HO389.out).2.2 t390 p392 q392; cases e392; replace p392 := eq_true p392; replace q392 := eq_true q392))
    go_ret
    exact ⟨by first | rfl | (simp [errW_none, errW_some] <;> rfl) | (simp [*, errW_none, errW_some] <;> rfl), IsS72.go_ HI0, hzI HB, hzk HK⟩
   ·rw [if_neg c6] at H
    exact absurd H (by simp)
  ·rw [if_neg c5] at H
   exact absurd H (by simp)
 ·rw [if_neg c3] at H
  have c3b0 : (t385 == 0) = false := beq_eq_false_iff_ne.mpr c3
  have c3b1 : (t385 != 0) = true := bne_iff_ne.mpr c3
  replace H := Option.bind_eq_some_iff.mp H
  obtain ⟨⟨t393, t394⟩, A120, H⟩ := H
  try dsimp only at H
  have A12 := Aside0.mk A120
  clear A120
  simp only [Option.some.injEq, Prod.mk.injEq] at H
  obtain ⟨rfl, rfl⟩ := H
  go_enter Try.func39, Try.ntmps39
  go_wp2_with (first | ((with_reducible refine gate_callee (f := 38) rfl ?_); refine gL 4 Try.func38 #[.pointer (some ⟨g, 0, none⟩), .int .i64 20] ?_; (with_reducible refine (spec_l6Rd_pick.calls k g s0_0 s0_1 20 t385 t386 w0 _ ?side1 ?side2 A2.out).mono ?_); (case side1 => exact IsS72.go_ HI0); (case side2 => exact hzI HB); rintro e w13 ⟨rfl, hi, hb, hk⟩; refine ⟨_, rfl, ?_⟩; replace HK := Aside0.mk (KeepBut.trans (hzk HK) hk (.inl rfl)); replace HB := Aside0.mk (hb); replace HI0 := Aside0.mk (hi); clear hi hb hk) | ((with_reducible refine gate_callee (f := 38) rfl ?_); refine gL 12 Try.func38 #[.pointer (some ⟨g, 0, none⟩), .int .i64 4] ?_; (with_reducible refine (spec_l6Rd_pick.calls k g s0_0 t386 4 t393 t394 w0 _ ?side1 ?side2 A12.out).mono ?_); (case side1 => exact IsS72.go_ HI0); (case side2 => exact hzI HB); rintro e w14 ⟨rfl, hi, hb, hk⟩; refine ⟨_, rfl, ?_⟩; replace HK := Aside0.mk (KeepBut.trans (hzk HK) hk (.inl rfl)); replace HB := Aside0.mk (hb); replace HI0 := Aside0.mk (hi); clear hi hb hk))
  go_ret
  exact ⟨by first | rfl | (simp [errW_none, errW_some] <;> rfl) | (simp [*, errW_none, errW_some] <;> rfl), IsS72.go_ HI0, hzI HB, hzk HK⟩


/-! ### spec_DrawExprRound: function 15 -/
def spec_DrawExprRound.f (k : Nat) (l0 : List Int) : Option (Int × Int × Int × (List (S25)) × Int × Int) := (spec_l6Open.f l0).bind fun bt396 => ((spec_l71Bent.f k bt396.1 bt396.2 false).bind fun bt399 => ((some (([10, 1000, 1000000, 100000000, 1, 0] : List Int) : List Int)).bind fun y406 => ((spec_l6Rd_pick.f k bt396.1 bt399.2.2.2.2 6).bind fun bt409 => (if 0 ≤ bt409.1 then (if bt409.1 < (y406.length : Int) then ((spec_l71Way.f k bt396.1 bt409.2).bind fun bt412 => (some (bt399.1, bt399.2.1, bt399.2.2.1, bt399.2.2.2.1, rd y406 bt409.1, bt412.1))) else (none)) else (none)))))
def spec_DrawExprRound.T2 : Bool × List (List Nat × List Nat) := (true, [([], []), ([0], [0]), ([], []), ([], []), ([3, 1], [3]), ([2, 4], [2, 4]), ([5], [5]), ([], []), ([7, 4], [7]), ([1, 8, 0, 1], [1]), ([6, 9, 0, 1, 2, 3, 4, 5, 6, 9], [6]), ([8, 10, 0, 1, 2, 3, 4, 5, 6, 7, 8, 9, 10], [8])])
def spec_DrawExprRound.B2 : List Nat := [0, 1, 0, 0, 11, 31, 63, 0, 155, 411, 1023, 2047]
theorem spec_DrawExprRound.tab2 : rtab .any (opsOf Try.f15 2) = spec_DrawExprRound.T2 := by kernel_rfl
theorem spec_DrawExprRound.bits2 : waitsOk spec_DrawExprRound.T2.2 spec_DrawExprRound.B2 = true := by kernel_rfl
set_option maxHeartbeats 8000000 in
set_option maxRecDepth 100000 in
theorem spec_DrawExprRound.calls (k : Nat) (A0 : Option Addr) (c0 : Nat) (l0 : List Int) (r1 : Int) (r2 : Int) (r3 : Int) (r4 : List (S25)) (r5 : Int) (r6 : Int) (w : World) (hr0 : Kd.C (Kd.int .u8) w A0 l0.length l0) (hc0 : l0.length ≤ c0) (h : spec_DrawExprRound.f k l0 = some (r1, r2, r3, r4, r5, r6)) :
  Calls Try.prog 15 #[.slice A0 l0.length c0] w fun e w' => ∃ v3_ : Value, e = .returned (.tuple #[.agg #[.int .i64 r1, .int .i64 r2, .int .i64 r3, v3_], .int .i64 r5, .int .i64 r6]) ∧ Kd.N k25 25 w' w.heap.size (fun k_ => (w.heap.size ≤ k_)) v3_ r4 ∧ Below w.heap.size w w' := by
 have hu25 := Try.underlying25
 have HR0 := Aside0.mk hr0
 have HC0 := Aside0.mk hc0
 clear hr0 hc0
 have HB := Aside0.mk (Below.refl w.heap.size w)
 have H := h
 clear h
 unfold spec_DrawExprRound.f at H
 replace H := Option.bind_eq_some_iff.mp H
 obtain ⟨⟨t396, t397⟩, A20, H⟩ := H
 try dsimp only at H
 have A2 := Aside0.mk A20
 clear A20
 replace H := Option.bind_eq_some_iff.mp H
 obtain ⟨⟨t399, t400, t401, t402, t405⟩, A30, H⟩ := H
 try dsimp only at H
 have A3 := Aside0.mk A30
 clear A30
 obtain ⟨y406, hy406⟩ : ∃ y_ : List Int, y_ = (([10, 1000, 1000000, 100000000, 1, 0] : List Int)) := ⟨_, rfl⟩
 replace H : ((spec_l6Rd_pick.f k t396 t405 6).bind fun bt409 => (if 0 ≤ bt409.1 then (if bt409.1 < (y406.length : Int) then ((spec_l71Way.f k t396 bt409.2).bind fun bt412 => (some (t399, t400, t401, t402, rd y406 bt409.1, bt412.1))) else (none)) else (none))) = some (r1, r2, r3, r4, r5, r6) := by first | (rw [hy406]; with_reducible exact H) | (have H2_ := (Option.bind_some _ _).symm.trans H; rw [hy406]; with_reducible exact H2_) | (have H2_ := (Option.bind_some _ _).symm.trans H; with_reducible exact H2_) | with_reducible exact H | (rw [hy406]; exact H) | exact H
 have Ny406 := Aside0.mk hy406
 clear hy406
 replace H := Option.bind_eq_some_iff.mp H
 obtain ⟨⟨t409, t410⟩, A40, H⟩ := H
 try dsimp only at H
 have A4 := Aside0.mk A40
 clear A40
 by_cases c5 : 0 ≤ t409
 ·rw [if_pos c5] at H
  have c5b0 : decide (0 ≤ t409) = true := decide_eq_true c5
  clear c5
  by_cases c6 : t409 < (y406.length : Int)
  ·rw [if_pos c6] at H
   have c6b0 : decide (t409 < (y406.length : Int)) = true := decide_eq_true c6
   clear c6
   replace H := Option.bind_eq_some_iff.mp H
   obtain ⟨⟨t412, t413⟩, A70, H⟩ := H
   try dsimp only at H
   have A7 := Aside0.mk A70
   clear A70
   simp only [Option.some.injEq, Prod.mk.injEq] at H
   obtain ⟨rfl, rfl, rfl, rfl, rfl, rfl⟩ := H
   go_enter Try.func15, Try.ntmps15
   try go_wp2_with (first | ((with_reducible refine gate_dst (N := 2) rfl ?_); refine bE 2 #[.int .i64 0, .int .i64 0, .int .i64 0, .slice none 0 0] 25 ?_; intro gb395 hg w8 hbox hb; have BK395 := Aside0.mk (hbox); have GE395 := gw hg (hz0 HB); replace HB := hbb (hz0 HB) hb; clear hb hbox hg) | ((with_reducible refine gate_callee (f := 36) rfl ?_); refine gL 7 Try.func36 #[.slice A0 l0.length c0] ?_; (with_reducible refine (spec_l6Open.calls _ _ l0 t396 t397 w _ ?side1 ?side2 ?side3 A2.out).mono ?_); (case side1 => exact hzs HB); (case side2 => exact HR0.out); (case side3 => exact HC0.out); rintro e w9 ⟨g398, rfl, hi, hb, hb2⟩; refine ⟨_, rfl, ?_⟩; have HI398 := Aside0.mk (hi); have NB398_395 := Aside0.mk (IsS72.ne_blk hi (blk_below (g := gb395) (o := .cells #[.int .i64 0, .int .i64 0, .int .i64 0, .slice none 0 0] 25 (0, 0)) (bk BK395) hb2) (by decide)); have NB395_398 := Aside0.mk (Ne.symm (IsS72.ne_blk hi (blk_below (g := gb395) (o := .cells #[.int .i64 0, .int .i64 0, .int .i64 0, .slice none 0 0] 25 (0, 0)) (bk BK395) hb2) (by decide))); replace BK395 := Aside0.mk (blk_below (g := gb395) (o := .cells #[.int .i64 0, .int .i64 0, .int .i64 0, .slice none 0 0] 25 (0, 0)) (bk BK395) hb2); replace HB := Aside0.mk (hb); (try clear hb); (try clear hb2); (try clear hk); (try clear hi)))
   have pi411 : (0 ≤ (t409 : Int)) = True := eq_true (of_decide_eq_true (by first | (with_reducible assumption) | assumption))
   have qi411 : (t409 < (y406.length : Int)) = True := eq_true (of_decide_eq_true (by first | (with_reducible assumption) | assumption))
   replace BK395 := Aside0.mk (blk_drew BK395.out)
   replace HI398 := Aside0.mk (IsS72.drew HI398.out)
   replace HB := Aside0.mk (below_drew1 HB.out)
   refine start_ (n := 12) (S := fun w' => True) (ds := []) #[false, false, false, false, false, false, false, false, false, false, false, false] (by kernel_rfl) rfl rfl trivial (fun hHeld => ?_); refine with_tabW spec_DrawExprRound.tab2 spec_DrawExprRound.bits2 (fun HT_ HW_ => ?_)
   generalize w9.drew = w10 at BK395 HI398 HB hHeld ⊢
   refine pU 0 8 #[true, false, false, false, false, false, false, false, false, false, false, false] HT_ ?_
   refine pU 3 11 #[true, false, false, true, false, false, false, false, false, false, false, false] HT_ ?_
   refine pU 7 15 #[true, false, false, true, false, false, false, true, false, false, false, false] HT_ ?_
   refine inv_at [1, 2, 4, 5, 6, 8, 9, 10, 11] (fun a0_ b a w' => ∃ (v403 : Value) (v407 : Value) (adz_v407 : Addr) (m1_ : Value) (m5_ : Value), a = putSel a0_ b [(1, 9, m1_), (2, 10, v407), (4, 12, .int .i64 t409), (5, 13, m5_), (6, 14, .int .i64 (rd y406 t409)), (8, 16, .int .i64 t412), (10, 3, .int .i64 (rd y406 t409)), (11, 4, .int .i64 t412)] ∧ (b 9 = false → w'.heap[gb395]? = some (.cells #[.int .i64 0, .int .i64 0, .int .i64 0, .slice none 0 0] 25 (0, 0))) ∧ (b 1 = false → IsS72 w w' g398 t396 t397) ∧ (Below w.heap.size w w') ∧ (b 1 = true → Kd.N k25 25 w' w.heap.size (fun k_ => (w.heap.size ≤ k_) ∧ k_ ≠ gb395 ∧ k_ ≠ g398) v403 t402) ∧ (b 1 = true → b 4 = false → IsS72 w w' g398 t396 t405) ∧ (b 2 = true → Kd.R (Kd.int .i64) 3 w' w.heap.size (fun k_ => (w.heap.size ≤ k_)) v407 y406) ∧ (b 2 = true → ∃ c_, (v407 : Value) = .slice (some adz_v407) y406.length c_) ∧ (b 4 = true → b 8 = false → IsS72 w w' g398 t396 t410) ∧ (b 8 = true → IsS72 w w' g398 t396 t413) ∧ (b 9 = true → w'.heap[gb395]? = some (.cells #[.int .i64 t399, .int .i64 t400, .int .i64 t401, v403] 25 (0, 0))) ∧ (b 1 = true → (m1_ : Value) = .agg #[.int .i64 t399, .int .i64 t400, .int .i64 t401, v403]) ∧ (b 5 = true → (m5_ : Value) = .pointer (some (adz_v407.add (t409).toNat)))) HT_.out HW_.out (by kernel_rfl) (by kernel_rfl) ?_ ?_ ?_
   ·exact ⟨.bool false, .bool false, ⟨0, 0, none⟩, .bool false, .bool false, by simp only [putSel, Bool.false_eq_true, if_false], fun _ => BK395.out, fun _ => HI398.out, HB.out, fun h_ => absurd h_ (by decide), fun h_ => absurd h_ (by decide), fun h_ => absurd h_ (by decide), fun h_ => absurd h_ (by decide), fun h_ => absurd h_ (by decide), fun h_ => absurd h_ (by decide), fun h_ => absurd h_ (by decide), fun h_ => absurd h_ (by decide), fun h_ => absurd h_ (by decide)⟩
   ·skip
    clear BK395 HB HI398
    refine steps_cons ?_ ?_
    ·rintro b a w' ⟨v403, v407, adz_v407, m1_, m5_, ha, Q_BK395, Q_HI398, Q_HB, Q_HO404, Q_HI398_e1, Q_HO408, Q_HA_HO408, Q_HI398_e4, Q_HI398_e8, Q_BK395_e9, Q_X1_, Q_X5_⟩ hb_ hon hoff
     refine ⟨_, rfl, fun K hK => ?_⟩
     have e8 : a.tmps[8]? = some (.pointer (some ⟨g398, 0, none⟩)) := by rw [ha]; exact (putSel_off rfl).trans rfl
     replace ha := Aside0.mk ha
     have BK395 := Aside0.mk (Q_BK395 (hoff 9 (by kernel_rfl)))
     have HI398 := Aside0.mk (Q_HI398 hb_)
     have HB := Aside0.mk Q_HB
     refine goes_ Try.func37 (by kernel_rfl) rfl #[.pointer (some ⟨g398, 0, none⟩), .bool false] (by rfl) rfl rfl (by first | (simp only [List.map_toArray, List.map_cons, List.map_nil, Act.eval, Array.getD_eq_getD_getElem?, Option.getD_some, e8]; done) | (simp only [List.map_toArray, List.map_cons, List.map_nil, Act.eval, Array.getD_eq_getD_getElem?, Option.getD_some, e8]; rfl)) ?_
     with_reducible refine (spec_l71Bent.calls k g398 t396 t397 false t399 t400 t401 t402 t405 w _ ?side1 ?side2 A3.out).mono ?_
     (case side1 => exact IsS72.go_ HI398)
     (case side2 => exact hzI HB)
     rintro e w11 ⟨v403, rfl, ho0, hi, hb, hk⟩
     refine ⟨_, rfl, ?_⟩
     have n0_ := kb hk (bk BK395) NB395_398
     have n1_ := Aside0.mk (Kd.N_lower (Kd.N_mono (ok' := fun k_ => (w.heap.size ≤ k_) ∧ k_ ≠ gb395 ∧ k_ ≠ g398) ho0 (fun k_ hk_ => ⟨(Nat.le_trans (below_size (hzI HB)) hk_), (Kd.freshB (g := gb395) (o := .cells #[.int .i64 0, .int .i64 0, .int .i64 0, .slice none 0 0] 25 (0, 0)) (bk BK395) k_ hk_), (IsS72.fresh (IsS72.go_ HI398) k_ hk_)⟩)) (below_size (hzI HB)))
     have n2_ := Aside0.mk (hb)
     have n3_ := Aside0.mk (hi)
     have z_HO408 := fun (h0_ : b 2 = true) => (show Kd.R (Kd.int .i64) 3 w11 w.heap.size (fun k_ => (w.heap.size ≤ k_)) v407 y406 from by first | exact (Kd.R_mono (Kd.R_keep (IsS72.apart (show IsS72 w _ g398 t396 t397 from IsS72.go_ HI398) (by (with_reducible repeat (first | apply Kd.R_alloc | apply Kd.R_drewN | apply Kd.R_drew)); exact (Q_HO408 h0_)) (by decide)) hk (fun _ h => h.2)) (fun _ h => h.1)) | exact Kd.R_mono (Kd.R_mono (Kd.R_keep (IsS72.apart (show IsS72 w _ g398 t396 t397 from IsS72.go_ HI398) (by (with_reducible repeat (first | apply Kd.R_alloc | apply Kd.R_drewN | apply Kd.R_drew)); exact (Q_HO408 h0_)) (by decide)) hk (fun _ h => h.2)) (fun _ h => h.1)) (fun _ h_ => by first | trivial | exact h_ | exact h_.1))
     clear BK395
     clear HB
     clear HI398
     have BK395 := n0_
     have HO404 := n1_
     have HB := n2_
     have HI398 := n3_
     clear n0_ n1_ n2_ n3_
     (try clear hb)
     (try clear hb2)
     (try clear hk)
     (try clear hi)
     (try clear ho0)
     refine hK.out _ _ ⟨v403, v407, adz_v407, (.agg #[.int .i64 t399, .int .i64 t400, .int .i64 t401, v403]), m5_, (by rw [ha.out]; exact putSel_upk 0 hb_ rfl rfl rfl), fun _ => (bk BK395), fun h0_ => absurd ((up_self b 1).symm.trans h0_) (by decide), (hzI HB), fun _ => (by (with_reducible repeat (first | apply Kd.N_alloc | apply Kd.N_drewN | apply Kd.N_drew)); exact HO404.out), fun _ _ => (IsS72.go_ HI398), z_HO408, Q_HA_HO408, fun h0_ _ => absurd ((hoff 4 (by kernel_rfl)).symm.trans h0_) (by decide), fun h0_ => absurd ((hoff 8 (by kernel_rfl)).symm.trans h0_) (by decide), fun h0_ => absurd ((hoff 9 (by kernel_rfl)).symm.trans h0_) (by decide), fun _ => rfl, fun h0_ => absurd ((hoff 5 (by kernel_rfl)).symm.trans h0_) (by decide)⟩
    refine steps_cons ?_ ?_
    ·rintro b a w' ⟨v403, v407, adz_v407, m1_, m5_, ha, Q_BK395, Q_HI398, Q_HB, Q_HO404, Q_HI398_e1, Q_HO408, Q_HA_HO408, Q_HI398_e4, Q_HI398_e8, Q_BK395_e9, Q_X1_, Q_X5_⟩ hb_ hon hoff
     refine ⟨_, rfl, fun K hK => ?_⟩
     replace ha := Aside0.mk ha
     have HB := Aside0.mk Q_HB
     refine Kd.R_lit_step (Kd.int .i64) _ 3 ?hg (N := 10) ?hd (xs := ([10, 1000, 1000000, 100000000, 1, 0] : List Int)) (inner := [.int .i64 10, .int .i64 1000, .int .i64 1000000, .int .i64 100000000, .int .i64 1, .int .i64 0]) (ok := fun _ => True) (okp := fun _ => True) ?hr ?hp (fun _ hk => hk) trivial (Below.refl _ _) (Nat.le_refl _) (by simp) ?_; (case hd => rfl); (case hg => rfl); (case hr => first | (go_simp; done) | (go_simp; rfl)); (case hp => exact (Reps.one (show Kd.M (Kd.int .i64) _ _ _ 10 [.int .i64 10] from rfl) (Reps.one (show Kd.M (Kd.int .i64) _ _ _ 1000 [.int .i64 1000] from rfl) (Reps.one (show Kd.M (Kd.int .i64) _ _ _ 1000000 [.int .i64 1000000] from rfl) (Reps.one (show Kd.M (Kd.int .i64) _ _ _ 100000000 [.int .i64 100000000] from rfl) (Reps.one (show Kd.M (Kd.int .i64) _ _ _ 1 [.int .i64 1] from rfl) (Reps.one (show Kd.M (Kd.int .i64) _ _ _ 0 [.int .i64 0] from rfl) (Reps.none _ _))))))))
     intro v407 w11 ho12 hb hg_ hnew_
     clear hg_ hnew_
     (first | rw [← Ny406.out] at ho12 | (simp only [Int.reduceToNat] at ho12; rw [← Ny406.out] at ho12))
     have n0_ := Aside0.mk (Kd.R_lower (Kd.R_newM (M := fun k_ => (w.heap.size ≤ k_)) ho12 (below_size (hzs HB)) (fun k_ h_ => h_)) (below_size (hzs HB)))
     have n3_ := hbb (hzs HB) hb
     have z_BK395 := fun (h0_ : b 9 = false) => (show w11.heap[gb395]? = some (.cells #[.int .i64 0, .int .i64 0, .int .i64 0, .slice none 0 0] 25 (0, 0)) from by first | exact (blk_below (g := gb395) (o := .cells #[.int .i64 0, .int .i64 0, .int .i64 0, .slice none 0 0] 25 (0, 0)) (by (with_reducible repeat (first | refine blk_drewN ?_ _ | refine blk_drew ?_ | refine blk_alloc ?_ _)); exact (Q_BK395 h0_)) hb))
     have z_HI398 := fun (h0_ : b 1 = false) => (show IsS72 w w11 g398 t396 t397 from by first | exact (IsS72.below (by repeat (first | (with_reducible first | exact (Q_HI398 h0_) | apply IsS72.alloc | apply IsS72.drewN | apply IsS72.drew | apply IsS72.set_1 | refine IsS72.far ?_ NB398_395.out _) | exact (Q_HI398 h0_))) hb))
     have z_HO404 := fun (h0_ : b 1 = true) => (show Kd.N k25 25 w11 w.heap.size (fun k_ => (w.heap.size ≤ k_) ∧ k_ ≠ gb395 ∧ k_ ≠ g398) v403 t402 from by first | exact (Kd.N_elder' (by (with_reducible repeat (first | apply Kd.N_alloc | apply Kd.N_drewN | apply Kd.N_drew)); exact (Q_HO404 h0_)) (Kd.R_base ho12) hb) | exact Kd.N_mono (Kd.N_elder' (by (with_reducible repeat (first | apply Kd.N_alloc | apply Kd.N_drewN | apply Kd.N_drew)); exact (Q_HO404 h0_)) (Kd.R_base ho12) hb) (fun _ h_ => by first | trivial | exact h_ | exact h_.1))
     have z_HI398_e1 := fun (h0_ : b 1 = true) (h1_ : b 4 = false) => (show IsS72 w w11 g398 t396 t405 from by first | exact (IsS72.below (by repeat (first | (with_reducible first | exact (Q_HI398_e1 h0_ h1_) | apply IsS72.alloc | apply IsS72.drewN | apply IsS72.drew | apply IsS72.set_1 | refine IsS72.far ?_ NB398_395.out _) | exact (Q_HI398_e1 h0_ h1_))) hb))
     have z_HI398_e4 := fun (h0_ : b 4 = true) (h1_ : b 8 = false) => (show IsS72 w w11 g398 t396 t410 from by first | exact (IsS72.below (by repeat (first | (with_reducible first | exact (Q_HI398_e4 h0_ h1_) | apply IsS72.alloc | apply IsS72.drewN | apply IsS72.drew | apply IsS72.set_1 | refine IsS72.far ?_ NB398_395.out _) | exact (Q_HI398_e4 h0_ h1_))) hb))
     have z_HI398_e8 := fun (h0_ : b 8 = true) => (show IsS72 w w11 g398 t396 t413 from by first | exact (IsS72.below (by repeat (first | (with_reducible first | exact (Q_HI398_e8 h0_) | apply IsS72.alloc | apply IsS72.drewN | apply IsS72.drew | apply IsS72.set_1 | refine IsS72.far ?_ NB398_395.out _) | exact (Q_HI398_e8 h0_))) hb))
     have z_BK395_e9 := fun (h0_ : b 9 = true) => (show w11.heap[gb395]? = some (.cells #[.int .i64 t399, .int .i64 t400, .int .i64 t401, v403] 25 (0, 0)) from by first | exact (blk_below (g := gb395) (o := .cells #[.int .i64 t399, .int .i64 t400, .int .i64 t401, v403] 25 (0, 0)) (by (with_reducible repeat (first | refine blk_drewN ?_ _ | refine blk_drew ?_ | refine blk_alloc ?_ _)); exact (Q_BK395_e9 h0_)) hb))
     clear HB
     have HO408 := n0_
     have HB := n3_
     clear n0_ n3_
     clear hb ho12
     obtain ⟨Ao13, co13, eo13⟩ := Kd.R_slice HO408.out
     subst eo13
     obtain ⟨ado13, fo13, _⟩ := Kd.at_int (Kd.R_reads' HO408.out).2.2 0 (by decide) (by rw [Ny406.out]; simp)
     cases fo13
     refine hK.out _ _ ⟨v403, .slice (some ado13) y406.length co13, ado13, m1_, m5_, (by rw [ha.out]; exact putSel_upk 1 hb_ rfl rfl rfl), z_BK395, z_HI398, (hzs HB), z_HO404, z_HI398_e1, fun _ => (by (with_reducible repeat (first | apply Kd.R_alloc | apply Kd.R_drewN | apply Kd.R_drew)); exact Kd.R_mono HO408.out (fun _ hk => hk.1)), fun _ => ⟨_, rfl⟩, z_HI398_e4, z_HI398_e8, z_BK395_e9, Q_X1_, fun h0_ => absurd ((hoff 5 (by kernel_rfl)).symm.trans h0_) (by decide)⟩
    refine steps_cons ?_ ?_
    ·rintro b a w' ⟨v403, v407, adz_v407, m1_, m5_, ha, Q_BK395, Q_HI398, Q_HB, Q_HO404, Q_HI398_e1, Q_HO408, Q_HA_HO408, Q_HI398_e4, Q_HI398_e8, Q_BK395_e9, Q_X1_, Q_X5_⟩ hb_ hon hoff
     refine ⟨_, rfl, fun K hK => ?_⟩
     have e11 : a.tmps[11]? = some (.pointer (some ⟨g398, 0, none⟩)) := by rw [ha]; exact (putSel_off rfl).trans rfl
     replace ha := Aside0.mk ha
     have BK395 := Aside0.mk (Q_BK395 (hoff 9 (by kernel_rfl)))
     have HB := Aside0.mk Q_HB
     have HO404 := Aside0.mk (Q_HO404 (hon 1 (by kernel_rfl)))
     have HI398 := Aside0.mk (Q_HI398_e1 (hon 1 (by kernel_rfl)) hb_)
     refine goes_ Try.func38 (by kernel_rfl) rfl #[.pointer (some ⟨g398, 0, none⟩), .int .i64 6] (by rfl) rfl rfl (by first | (simp only [List.map_toArray, List.map_cons, List.map_nil, Act.eval, Array.getD_eq_getD_getElem?, Option.getD_some, e11]; done) | (simp only [List.map_toArray, List.map_cons, List.map_nil, Act.eval, Array.getD_eq_getD_getElem?, Option.getD_some, e11]; rfl)) ?_
     with_reducible refine (spec_l6Rd_pick.calls k g398 t396 t405 6 t409 t410 w _ ?side1 ?side2 A4.out).mono ?_
     (case side1 => exact IsS72.go_ HI398)
     (case side2 => exact hzI HB)
     rintro e w13 ⟨rfl, hi, hb, hk⟩
     refine ⟨_, rfl, ?_⟩
     have n0_ := kb hk (bk BK395) NB395_398
     have n1_ := Aside0.mk (Kd.N_mono (Kd.N_keep (Kd.N_mono (ok := fun k_ => (((w.heap.size ≤ k_)) ∧ (k_ ≠ gb395 ∧ k_ ≠ g398))) (by (with_reducible repeat (first | apply Kd.N_alloc | apply Kd.N_drewN | apply Kd.N_drew)); exact HO404.out) (fun k_ hk_ => (⟨hk_, hk_.2.2⟩ : _ ∧ k_ ≠ g398))) hk (fun _ h => h.2)) (fun _ h => h.1))
     have n2_ := Aside0.mk (hb)
     have n3_ := Aside0.mk (hi)
     have z_HO408 := fun (h0_ : b 2 = true) => (show Kd.R (Kd.int .i64) 3 w13 w.heap.size (fun k_ => (w.heap.size ≤ k_)) v407 y406 from by first | exact (Kd.R_mono (Kd.R_keep (IsS72.apart (show IsS72 w _ g398 t396 t405 from IsS72.go_ HI398) (by (with_reducible repeat (first | apply Kd.R_alloc | apply Kd.R_drewN | apply Kd.R_drew)); exact (Q_HO408 h0_)) (by decide)) hk (fun _ h => h.2)) (fun _ h => h.1)) | exact Kd.R_mono (Kd.R_mono (Kd.R_keep (IsS72.apart (show IsS72 w _ g398 t396 t405 from IsS72.go_ HI398) (by (with_reducible repeat (first | apply Kd.R_alloc | apply Kd.R_drewN | apply Kd.R_drew)); exact (Q_HO408 h0_)) (by decide)) hk (fun _ h => h.2)) (fun _ h => h.1)) (fun _ h_ => by first | trivial | exact h_ | exact h_.1))
     clear BK395
     clear HO404
     clear HB
     clear HI398
     have BK395 := n0_
     have HO404 := n1_
     have HB := n2_
     have HI398 := n3_
     clear n0_ n1_ n2_ n3_
     clear hi hb hk
     refine hK.out _ _ ⟨v403, v407, adz_v407, m1_, m5_, (by rw [ha.out]; exact putSel_upk 2 hb_ rfl rfl rfl), fun _ => (bk BK395), fun h0_ => absurd ((hon 1 (by kernel_rfl)).symm.trans h0_) (by decide), (hzI HB), fun _ => (by (with_reducible repeat (first | apply Kd.N_alloc | apply Kd.N_drewN | apply Kd.N_drew)); exact HO404.out), fun _ h1_ => absurd ((up_self b 4).symm.trans h1_) (by decide), z_HO408, Q_HA_HO408, fun _ _ => (IsS72.go_ HI398), fun h0_ => absurd ((hoff 8 (by kernel_rfl)).symm.trans h0_) (by decide), fun h0_ => absurd ((hoff 9 (by kernel_rfl)).symm.trans h0_) (by decide), Q_X1_, fun h0_ => absurd ((hoff 5 (by kernel_rfl)).symm.trans h0_) (by decide)⟩
    refine steps_cons ?_ ?_
    ·rintro b a w' ⟨v403, v407, adz_v407, m1_, m5_, ha, Q_BK395, Q_HI398, Q_HB, Q_HO404, Q_HI398_e1, Q_HO408, Q_HA_HO408, Q_HI398_e4, Q_HI398_e8, Q_BK395_e9, Q_X1_, Q_X5_⟩ hb_ hon hoff
     refine ⟨_, rfl, fun K hK => ?_⟩
     have e10 : a.tmps[10]? = some (v407) := by rw [ha]; exact putSel_on (e := (2, 10, v407)) 1 rfl rfl (hon 2 (by kernel_rfl)) rfl
     have e12 : a.tmps[12]? = some (.int .i64 t409) := by rw [ha]; exact putSel_on (e := (4, 12, .int .i64 t409)) 2 rfl rfl (hon 4 (by kernel_rfl)) rfl
     replace ha := Aside0.mk ha
     have HB := Aside0.mk Q_HB
     have HO404 := Aside0.mk (Q_HO404 (hon 1 (by kernel_rfl)))
     have HO408 := Aside0.mk (Q_HO408 (hon 2 (by kernel_rfl)))
     have HA_HO408 := Aside0.mk (Q_HA_HO408 (hon 2 (by kernel_rfl)))
     obtain ⟨c_, hv_⟩ := HA_HO408.out
     rw [hv_] at e10
     refine value_ (w1 := w') (v := .pointer (some (adz_v407.add (t409).toNat))) (by rfl) rfl ?_ ?_
     ·go_simp
      (try simp only [i64_w])
      try rfl
     refine hK.out _ _ ⟨v403, v407, adz_v407, m1_, (.pointer (some (adz_v407.add (t409).toNat))), (by rw [ha.out]; exact putSel_upk 3 hb_ rfl rfl rfl), Q_BK395, fun h0_ => absurd ((hon 1 (by kernel_rfl)).symm.trans h0_) (by decide), Q_HB, Q_HO404, fun _ h1_ => absurd ((hon 4 (by kernel_rfl)).symm.trans h1_) (by decide), Q_HO408, Q_HA_HO408, Q_HI398_e4, Q_HI398_e8, Q_BK395_e9, Q_X1_, fun _ => rfl⟩
    refine steps_cons ?_ ?_
    ·rintro b a w' ⟨v403, v407, adz_v407, m1_, m5_, ha, Q_BK395, Q_HI398, Q_HB, Q_HO404, Q_HI398_e1, Q_HO408, Q_HA_HO408, Q_HI398_e4, Q_HI398_e8, Q_BK395_e9, Q_X1_, Q_X5_⟩ hb_ hon hoff
     refine ⟨_, rfl, fun K hK => ?_⟩
     have e13 : a.tmps[13]? = some (m5_) := by rw [ha]; exact putSel_on (e := (5, 13, m5_)) 3 rfl rfl (hon 5 (by kernel_rfl)) rfl
     rw [Q_X5_ (hon 5 (by kernel_rfl))] at e13
     replace ha := Aside0.mk ha
     have HB := Aside0.mk Q_HB
     have HO404 := Aside0.mk (Q_HO404 (hon 1 (by kernel_rfl)))
     have HO408 := Aside0.mk (Q_HO408 (hon 2 (by kernel_rfl)))
     have HA_HO408 := Aside0.mk (Q_HA_HO408 (hon 2 (by kernel_rfl)))
     obtain ⟨c_, hv_⟩ := HA_HO408.out
     have hF_ := HO408.out
     rw [hv_] at hF_
     obtain ⟨ad_, ea_, hx_⟩ := Kd.at_int (Kd.R_reads' hF_).2.2 t409 (of_eq_true pi411) (of_eq_true qi411)
     cases ea_
     refine value_ (w1 := w') (v := .int .i64 (rd y406 t409)) (by rfl) rfl ?_ ?_
     ·go_simp
      (try simp only [i64_w])
      try rfl
     refine hK.out _ _ ⟨v403, v407, adz_v407, m1_, m5_, (by rw [ha.out]; exact putSel_upk 4 hb_ rfl rfl rfl), Q_BK395, fun h0_ => absurd ((hon 1 (by kernel_rfl)).symm.trans h0_) (by decide), Q_HB, Q_HO404, fun _ h1_ => absurd ((hon 4 (by kernel_rfl)).symm.trans h1_) (by decide), Q_HO408, Q_HA_HO408, Q_HI398_e4, Q_HI398_e8, Q_BK395_e9, Q_X1_, Q_X5_⟩
    refine steps_cons ?_ ?_
    ·rintro b a w' ⟨v403, v407, adz_v407, m1_, m5_, ha, Q_BK395, Q_HI398, Q_HB, Q_HO404, Q_HI398_e1, Q_HO408, Q_HA_HO408, Q_HI398_e4, Q_HI398_e8, Q_BK395_e9, Q_X1_, Q_X5_⟩ hb_ hon hoff
     refine ⟨_, rfl, fun K hK => ?_⟩
     have e15 : a.tmps[15]? = some (.pointer (some ⟨g398, 0, none⟩)) := by rw [ha]; exact (putSel_off rfl).trans rfl
     replace ha := Aside0.mk ha
     have BK395 := Aside0.mk (Q_BK395 (hoff 9 (by kernel_rfl)))
     have HB := Aside0.mk Q_HB
     have HO404 := Aside0.mk (Q_HO404 (hon 1 (by kernel_rfl)))
     have HI398 := Aside0.mk (Q_HI398_e4 (hon 4 (by kernel_rfl)) hb_)
     refine goes_ Try.func39 (by kernel_rfl) rfl #[.pointer (some ⟨g398, 0, none⟩)] (by rfl) rfl rfl (by first | (simp only [List.map_toArray, List.map_cons, List.map_nil, Act.eval, Array.getD_eq_getD_getElem?, Option.getD_some, e15]; done) | (simp only [List.map_toArray, List.map_cons, List.map_nil, Act.eval, Array.getD_eq_getD_getElem?, Option.getD_some, e15]; rfl)) ?_
     with_reducible refine (spec_l71Way.calls k g398 t396 t410 t412 t413 w _ ?side1 ?side2 A7.out).mono ?_
     (case side1 => exact IsS72.go_ HI398)
     (case side2 => exact hzI HB)
     rintro e w14 ⟨rfl, hi, hb, hk⟩
     refine ⟨_, rfl, ?_⟩
     have n0_ := kb hk (bk BK395) NB395_398
     have n1_ := Aside0.mk (Kd.N_mono (Kd.N_keep (Kd.N_mono (ok := fun k_ => (((w.heap.size ≤ k_)) ∧ (k_ ≠ gb395 ∧ k_ ≠ g398))) (by (with_reducible repeat (first | apply Kd.N_alloc | apply Kd.N_drewN | apply Kd.N_drew)); exact HO404.out) (fun k_ hk_ => (⟨hk_, hk_.2.2⟩ : _ ∧ k_ ≠ g398))) hk (fun _ h => h.2)) (fun _ h => h.1))
     have n2_ := Aside0.mk (hb)
     have n3_ := Aside0.mk (hi)
     have z_HO408 := fun (h0_ : b 2 = true) => (show Kd.R (Kd.int .i64) 3 w14 w.heap.size (fun k_ => (w.heap.size ≤ k_)) v407 y406 from by first | exact (Kd.R_mono (Kd.R_keep (IsS72.apart (show IsS72 w _ g398 t396 t410 from IsS72.go_ HI398) (by (with_reducible repeat (first | apply Kd.R_alloc | apply Kd.R_drewN | apply Kd.R_drew)); exact (Q_HO408 h0_)) (by decide)) hk (fun _ h => h.2)) (fun _ h => h.1)) | exact Kd.R_mono (Kd.R_mono (Kd.R_keep (IsS72.apart (show IsS72 w _ g398 t396 t410 from IsS72.go_ HI398) (by (with_reducible repeat (first | apply Kd.R_alloc | apply Kd.R_drewN | apply Kd.R_drew)); exact (Q_HO408 h0_)) (by decide)) hk (fun _ h => h.2)) (fun _ h => h.1)) (fun _ h_ => by first | trivial | exact h_ | exact h_.1))
     clear BK395
     clear HO404
     clear HB
     clear HI398
     have BK395 := n0_
     have HO404 := n1_
     have HB := n2_
     have HI398 := n3_
     clear n0_ n1_ n2_ n3_
     clear hi hb hk
     refine hK.out _ _ ⟨v403, v407, adz_v407, m1_, m5_, (by rw [ha.out]; exact putSel_upk 5 hb_ rfl rfl rfl), fun _ => (bk BK395), fun h0_ => absurd ((hon 1 (by kernel_rfl)).symm.trans h0_) (by decide), (hzI HB), fun _ => (by (with_reducible repeat (first | apply Kd.N_alloc | apply Kd.N_drewN | apply Kd.N_drew)); exact HO404.out), fun _ h1_ => absurd ((hon 4 (by kernel_rfl)).symm.trans h1_) (by decide), z_HO408, Q_HA_HO408, fun _ h1_ => absurd ((up_self b 8).symm.trans h1_) (by decide), fun _ => (IsS72.go_ HI398), fun h0_ => absurd ((hoff 9 (by kernel_rfl)).symm.trans h0_) (by decide), Q_X1_, Q_X5_⟩
    refine steps_cons ?_ ?_
    ·rintro b a w' ⟨v403, v407, adz_v407, m1_, m5_, ha, Q_BK395, Q_HI398, Q_HB, Q_HO404, Q_HI398_e1, Q_HO408, Q_HA_HO408, Q_HI398_e4, Q_HI398_e8, Q_BK395_e9, Q_X1_, Q_X5_⟩ hb_ hon hoff
     refine ⟨_, rfl, fun K hK => ?_⟩
     have e2 : a.tmps[2]? = some (.pointer (some ⟨gb395, 0, none⟩)) := by rw [ha]; exact (putSel_off rfl).trans rfl
     have e9 : a.tmps[9]? = some (m1_) := by rw [ha]; exact putSel_on (e := (1, 9, m1_)) 0 rfl rfl (hon 1 (by kernel_rfl)) rfl
     rw [Q_X1_ (hon 1 (by kernel_rfl))] at e9
     replace ha := Aside0.mk ha
     have BK395 := Aside0.mk (Q_BK395 hb_)
     have HB := Aside0.mk Q_HB
     have HO404 := Aside0.mk (Q_HO404 (hon 1 (by kernel_rfl)))
     have HI398 := Aside0.mk (Q_HI398_e8 (hon 8 (by kernel_rfl)))
     obtain ⟨Ao18, co18, eo18⟩ := Kd.N_slice HO404.out
     (first | subst eo18 | (injection eo18 with f1_ f2_ f3_; have f4_ := f1_.symm; have f5_ := f3_.symm; clear f1_ f2_ f3_; subst f4_; subst f5_))
     have hs15 : w'.cell? ⟨gb395, 0, none⟩ = some (.int .i64 0) := (blk_cell BK395.out 0).trans rfl
     have hfs15 := blk_frozen BK395.out 0
     have hs16 : w'.cell? ⟨gb395, 1, none⟩ = some (.int .i64 0) := (blk_cell BK395.out 1).trans rfl
     have hfs16 := blk_frozen BK395.out 1
     have hs17 : w'.cell? ⟨gb395, 2, none⟩ = some (.int .i64 0) := (blk_cell BK395.out 2).trans rfl
     have hfs17 := blk_frozen BK395.out 2
     have hs19 : w'.cell? ⟨gb395, 3, none⟩ = some (.slice none 0 0) := (blk_cell BK395.out 3).trans rfl
     have hfs19 := blk_frozen BK395.out 3
     refine skip_ (w1 := ?_) (by rfl) rfl ?_ ?_
     rotate_left
     ·go_simp
      rfl
     refine hK.out _ _ ⟨.slice Ao18 t402.length co18, v407, adz_v407, m1_, m5_, (by rw [ha.out]; exact putSel_none (v := undef) rfl), fun h0_ => absurd ((up_self b 9).symm.trans h0_) (by decide), fun h0_ => absurd ((hon 1 (by kernel_rfl)).symm.trans h0_) (by decide), (hzI HB), fun _ => (by (with_reducible repeat (first | apply Kd.N_alloc | apply Kd.N_drewN | apply Kd.N_drew)); exact Kd.N_mono (Kd.N_far (p := ⟨gb395, 3, none⟩) (Kd.N_far (p := ⟨gb395, 2, none⟩) (Kd.N_far (p := ⟨gb395, 1, none⟩) (Kd.N_far (p := ⟨gb395, 0, none⟩) (Kd.N_mono HO404.out (fun k_ hk => (⟨hk, hk.2.1⟩ : _ ∧ k_ ≠ gb395))) (fun _ hk => hk.2) (.int .i64 t399)) (fun _ hk => hk.2) (.int .i64 t400)) (fun _ hk => hk.2) (.int .i64 t401)) (fun _ hk => hk.2) (.slice Ao18 t402.length co18)) (fun _ hk => ⟨hk.1.1, ⟨hk.1.2.1, hk.1.2.2⟩⟩)), fun _ h1_ => absurd ((hon 4 (by kernel_rfl)).symm.trans h1_) (by decide), fun h0_ => (by (with_reducible repeat (first | apply Kd.R_alloc | apply Kd.R_drewN | apply Kd.R_drew)); exact Kd.R_mono (Kd.R_far (p := ⟨gb395, 3, none⟩) (Kd.R_far (p := ⟨gb395, 2, none⟩) (Kd.R_far (p := ⟨gb395, 1, none⟩) (Kd.R_far (p := ⟨gb395, 0, none⟩) (Kd.R_types (Q_HO408 h0_) BK395.out (by decide)) (fun _ hk => hk.2) (.int .i64 t399)) (fun _ hk => hk.2) (.int .i64 t400)) (fun _ hk => hk.2) (.int .i64 t401)) (fun _ hk => hk.2) (.slice Ao18 t402.length co18)) (fun _ hk => hk.1)), Q_HA_HO408, fun _ h1_ => absurd ((hon 8 (by kernel_rfl)).symm.trans h1_) (by decide), fun _ => (IsS72.go_ HI398), fun _ => (by (with_reducible repeat (first | refine blk_drewN ?_ _ | refine blk_drew ?_ | refine blk_alloc ?_ _)); refine blk_put (cs := #[.int .i64 t399, .int .i64 t400, .int .i64 t401, .slice none 0 0]) ?_ 3 _ rfl; (with_reducible repeat (first | refine blk_drewN ?_ _ | refine blk_drew ?_ | refine blk_alloc ?_ _)); refine blk_put (cs := #[.int .i64 t399, .int .i64 t400, .int .i64 0, .slice none 0 0]) ?_ 2 _ rfl; (with_reducible repeat (first | refine blk_drewN ?_ _ | refine blk_drew ?_ | refine blk_alloc ?_ _)); refine blk_put (cs := #[.int .i64 t399, .int .i64 0, .int .i64 0, .slice none 0 0]) ?_ 1 _ rfl; (with_reducible repeat (first | refine blk_drewN ?_ _ | refine blk_drew ?_ | refine blk_alloc ?_ _)); refine blk_put (cs := #[.int .i64 0, .int .i64 0, .int .i64 0, .slice none 0 0]) ?_ 0 _ rfl; (with_reducible repeat (first | refine blk_drewN ?_ _ | refine blk_drew ?_ | refine blk_alloc ?_ _)); exact BK395.out), Q_X1_, Q_X5_⟩
    refine steps_cons ?_ ?_
    ·rintro b a w' ⟨v403, v407, adz_v407, m1_, m5_, ha, Q_BK395, Q_HI398, Q_HB, Q_HO404, Q_HI398_e1, Q_HO408, Q_HA_HO408, Q_HI398_e4, Q_HI398_e8, Q_BK395_e9, Q_X1_, Q_X5_⟩ hb_ hon hoff
     refine ⟨_, rfl, fun K hK => ?_⟩
     have e14 : a.tmps[14]? = some (.int .i64 (rd y406 t409)) := by rw [ha]; exact putSel_on (e := (6, 14, .int .i64 (rd y406 t409))) 4 rfl rfl (hon 6 (by kernel_rfl)) rfl
     replace ha := Aside0.mk ha
     have HB := Aside0.mk Q_HB
     have HO404 := Aside0.mk (Q_HO404 (hon 1 (by kernel_rfl)))
     have HO408 := Aside0.mk (Q_HO408 (hon 2 (by kernel_rfl)))
     have HA_HO408 := Aside0.mk (Q_HA_HO408 (hon 2 (by kernel_rfl)))
     have HI398 := Aside0.mk (Q_HI398_e8 (hon 8 (by kernel_rfl)))
     have BK395 := Aside0.mk (Q_BK395_e9 (hon 9 (by kernel_rfl)))
     refine value_ (w1 := w') (v := .int .i64 (rd y406 t409)) (by rfl) rfl ?_ ?_
     ·go_simp
      (try simp only [i64_w])
      try rfl
     refine hK.out _ _ ⟨v403, v407, adz_v407, m1_, m5_, (by rw [ha.out]; exact putSel_upk 6 hb_ rfl rfl rfl), fun h0_ => absurd ((hon 9 (by kernel_rfl)).symm.trans h0_) (by decide), fun h0_ => absurd ((hon 1 (by kernel_rfl)).symm.trans h0_) (by decide), Q_HB, Q_HO404, fun _ h1_ => absurd ((hon 4 (by kernel_rfl)).symm.trans h1_) (by decide), Q_HO408, Q_HA_HO408, fun _ h1_ => absurd ((hon 8 (by kernel_rfl)).symm.trans h1_) (by decide), Q_HI398_e8, Q_BK395_e9, Q_X1_, Q_X5_⟩
    refine steps_cons ?_ ?_
    ·rintro b a w' ⟨v403, v407, adz_v407, m1_, m5_, ha, Q_BK395, Q_HI398, Q_HB, Q_HO404, Q_HI398_e1, Q_HO408, Q_HA_HO408, Q_HI398_e4, Q_HI398_e8, Q_BK395_e9, Q_X1_, Q_X5_⟩ hb_ hon hoff
     refine ⟨_, rfl, fun K hK => ?_⟩
     have e16 : a.tmps[16]? = some (.int .i64 t412) := by rw [ha]; exact putSel_on (e := (8, 16, .int .i64 t412)) 5 rfl rfl (hon 8 (by kernel_rfl)) rfl
     replace ha := Aside0.mk ha
     have HB := Aside0.mk Q_HB
     have HO404 := Aside0.mk (Q_HO404 (hon 1 (by kernel_rfl)))
     have HO408 := Aside0.mk (Q_HO408 (hon 2 (by kernel_rfl)))
     have HA_HO408 := Aside0.mk (Q_HA_HO408 (hon 2 (by kernel_rfl)))
     have HI398 := Aside0.mk (Q_HI398_e8 (hon 8 (by kernel_rfl)))
     have BK395 := Aside0.mk (Q_BK395_e9 (hon 9 (by kernel_rfl)))
     refine value_ (w1 := w') (v := .int .i64 t412) (by rfl) rfl ?_ ?_
     ·go_simp
      (try simp only [i64_w])
      try rfl
     refine hK.out _ _ ⟨v403, v407, adz_v407, m1_, m5_, (by rw [ha.out]; exact putSel_upk 7 hb_ rfl rfl rfl), fun h0_ => absurd ((hon 9 (by kernel_rfl)).symm.trans h0_) (by decide), fun h0_ => absurd ((hon 1 (by kernel_rfl)).symm.trans h0_) (by decide), Q_HB, Q_HO404, fun _ h1_ => absurd ((hon 4 (by kernel_rfl)).symm.trans h1_) (by decide), Q_HO408, Q_HA_HO408, fun _ h1_ => absurd ((hon 8 (by kernel_rfl)).symm.trans h1_) (by decide), Q_HI398_e8, Q_BK395_e9, Q_X1_, Q_X5_⟩
    exact steps_nil
   rintro b a w22 hall ⟨v403, v407, adz_v407, m1_, m5_, ha, Q_BK395, Q_HI398, Q_HB, Q_HO404, Q_HI398_e1, Q_HO408, Q_HA_HO408, Q_HI398_e4, Q_HI398_e8, Q_BK395_e9, Q_X1_, Q_X5_⟩
   clear BK395 HB HI398
   have hb1_ := hall 1 (by kernel_rfl)
   have hb2_ := hall 2 (by kernel_rfl)
   have hb4_ := hall 4 (by kernel_rfl)
   have hb5_ := hall 5 (by kernel_rfl)
   have hb6_ := hall 6 (by kernel_rfl)
   have hb8_ := hall 8 (by kernel_rfl)
   have hb9_ := hall 9 (by kernel_rfl)
   have hb10_ := hall 10 (by kernel_rfl)
   have hb11_ := hall 11 (by kernel_rfl)
   subst ha
   obtain rfl := Q_X1_ hb1_
   obtain rfl := Q_X5_ hb5_
   simp only [putSel, hb1_, hb2_, hb4_, hb5_, hb6_, hb8_, hb9_, hb10_, hb11_, if_true, Act.put, List.setIfInBounds_toArray, List.set_cons_zero, List.set_cons_succ]
   clear Q_BK395
   clear Q_HI398
   have HB := Aside0.mk Q_HB
   clear Q_HB
   have HO404 := Aside0.mk (Q_HO404 hb1_)
   clear Q_HO404
   clear Q_HI398_e1
   have HO408 := Aside0.mk (Q_HO408 hb2_)
   clear Q_HO408
   have HA_HO408 := Aside0.mk (Q_HA_HO408 hb2_)
   clear Q_HA_HO408
   clear Q_HI398_e4
   have HI398 := Aside0.mk (Q_HI398_e8 hb8_)
   clear Q_HI398_e8
   have BK395 := Aside0.mk (Q_BK395_e9 hb9_)
   clear Q_BK395_e9
   clear hall hb1_ hb2_ hb4_ hb5_ hb6_ hb8_ hb9_ hb10_ hb11_
   obtain ⟨co23, eo23⟩ := HA_HO408.out
   clear HA_HO408
   subst eo23
   try go_wp2
   refine bodyPost_ret (results_ctt rfl _ _ gb395 25 #[.int .i64 t399, .int .i64 t400, .int .i64 t401, v403] (0, 0) _ rfl (bk BK395) Try.underlying25 rfl (by kernel_rfl)) rfl ?_
   exact ⟨_, by first | rfl | (simp [errW_none, errW_some] <;> rfl) | (simp [*, errW_none, errW_some] <;> rfl), by (with_reducible repeat (first | apply Kd.N_alloc | apply Kd.N_drewN | apply Kd.N_drew)); exact Kd.N_mono HO404.out (fun _ hk => hk.1), hzI HB⟩
  ·rw [if_neg c6] at H
   exact absurd H (by simp)
 ·rw [if_neg c5] at H
  exact absurd H (by simp)


end Go.Proofs.Ytlodpfddimeffaa.M
