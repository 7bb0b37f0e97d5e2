import Derived.Test.YtcdgplkmahabiaaM0
import Derived.Test.YtcdgplkmahabiaaDa
namespace Go.Proofs.Ytcdgplkmahabiaa.M
open Go.RowKit Go.Proofs.YtcdgplkmahabiaaW.PrintWords Go.Proofs.YtcdgplkmahabiaaW.PrintLast Go.Proofs.YtcdgplkmahabiaaW.PrintMore
attribute [local go_sem] max2_int min2_int max_two min_two max_three min_three max_four min_four
attribute [local go_sem high] eqA23 eqA30
attribute [local go_sem] fld23_0 fld23_1 fld30_0 fld30_1 fld55_0 fld55_1 fld55_2 fld55_3 fld55_4
set_option linter.unusedVariables false
set_option linter.unusedSimpArgs false

/-! ### spec_l71Sine: function 46 -/
def spec_l71Sine.f (k : Nat) (s0_0 : List Int) (s0_1 : Int) : Option (Int × Int) := (spec_l6Rd_pick.f k s0_0 s0_1 10).bind fun bt119 => (if bt119.1 = 0 then ((some (([1000000000, (-1000000000), 500000000, (-500000000), 0, 1000000001, (-1000000001)] : List Int) : List Int)).bind fun y121 => ((spec_l6Rd_pick.f k s0_0 bt119.2 7).bind fun bt124 => (if 0 ≤ bt124.1 then (if bt124.1 < (y121.length : Int) then (some (rd y121 bt124.1, bt124.2)) else (none)) else (none)))) else (if bt119.1 = 1 then ((spec_l6Rd_pick.f k s0_0 bt119.2 1000).bind fun bt127 => (some (wrap64 (1000000000 - bt127.1), bt127.2))) else ((spec_l71Big.f k s0_0 bt119.2 1000000000).bind fun bt129 => (some (bt129.1, bt129.2)))))
theorem spec_l71Sine.mono : ∀ a0 a1 k, LeO (spec_l71Sine.f k a0 a1) (spec_l71Sine.f (k + 1) a0 a1) := by
 intro a0 a1 k
 unfold spec_l71Sine.f
 repeat' first
   | (with_reducible exact spec_l6Rd_pick.mono _ _ _ _)
   | (with_reducible exact spec_l71Big.mono _ _ _ _)
   | (with_reducible exact LeO.refl _)
   | (with_reducible exact LeO.none _)
   | (with_reducible refine LeO.ite ?_ ?_)
   | (with_reducible refine LeO.bind ?_ (fun _ => ?_))
   | exact spec_l6Rd_pick.mono _ _ _ _
   | exact spec_l71Big.mono _ _ _ _
   | exact LeO.none _
   | refine LeO.ite ?_ ?_
   | refine LeO.bind ?_ (fun _ => ?_)
set_option maxHeartbeats 8000000 in
set_option maxRecDepth 100000 in
theorem spec_l71Sine.calls (k : Nat) (g : Nat) (s0_0 : List Int) (s0_1 : Int) (r1 : Int) (r2 : Int) (w0 w : World) (hI : IsS70 w0 w g s0_0 s0_1) (hB : Below w0.heap.size w0 w) (h : spec_l71Sine.f k s0_0 s0_1 = some (r1, r2)) :
  Calls Try.prog 46 #[.pointer (some ⟨g, 0, none⟩)] w fun e w' => e = .returned (.int .i64 r1) ∧ IsS70 w0 w' g s0_0 r2 ∧ Below w0.heap.size w0 w' ∧ KeepBut w w' g none := by
 have HI0 := Aside0.mk hI
 have HK := Aside0.mk (KeepBut.refl w g none)
 have HL := Aside0.mk hB.size
 clear hI
 have HW0 := Aside0.mk hB.size
 have HB := Aside0.mk hB
 clear hB
 have H : ((spec_l6Rd_pick.f k s0_0 s0_1 10).bind fun bt119 => (if bt119.1 = 0 then ((some (([1000000000, (-1000000000), 500000000, (-500000000), 0, 1000000001, (-1000000001)] : List Int) : List Int)).bind fun y121 => ((spec_l6Rd_pick.f k s0_0 bt119.2 7).bind fun bt124 => (if 0 ≤ bt124.1 then (if bt124.1 < (y121.length : Int) then (some (rd y121 bt124.1, bt124.2)) else (none)) else (none)))) else (if bt119.1 = 1 then ((spec_l6Rd_pick.f k s0_0 bt119.2 1000).bind fun bt127 => (some (wrap64 (1000000000 - bt127.1), bt127.2))) else ((spec_l71Big.f k s0_0 bt119.2 1000000000).bind fun bt129 => (some (bt129.1, bt129.2)))))) = some (r1, r2) := h
 clear h
 replace H := Option.bind_eq_some_iff.mp H
 obtain ⟨⟨t119, t120⟩, A20, H⟩ := H
 replace H : (if t119 = 0 then ((some (([1000000000, (-1000000000), 500000000, (-500000000), 0, 1000000001, (-1000000001)] : List Int) : List Int)).bind fun y121 => ((spec_l6Rd_pick.f k s0_0 t120 7).bind fun bt124 => (if 0 ≤ bt124.1 then (if bt124.1 < (y121.length : Int) then (some (rd y121 bt124.1, bt124.2)) else (none)) else (none)))) else (if t119 = 1 then ((spec_l6Rd_pick.f k s0_0 t120 1000).bind fun bt127 => (some (wrap64 (1000000000 - bt127.1), bt127.2))) else ((spec_l71Big.f k s0_0 t120 1000000000).bind fun bt129 => (some (bt129.1, bt129.2))))) = some (r1, r2) := H
 have A2 := Aside0.mk A20
 clear A20
 by_cases c3 : t119 = 0
 ·rw [if_pos c3] at H
  have c3b0 : (t119 == 0) = true := beq_iff_eq.mpr c3
  have c3b1 : (t119 != 0) = false := bne_eq_false_iff_eq.mpr c3
  clear c3
  obtain ⟨y121, hy121⟩ : ∃ y_ : List Int, y_ = (([1000000000, (-1000000000), 500000000, (-500000000), 0, 1000000001, (-1000000001)] : List Int)) := ⟨_, rfl⟩
  replace H : ((spec_l6Rd_pick.f k s0_0 t120 7).bind fun bt124 => (if 0 ≤ bt124.1 then (if bt124.1 < (y121.length : Int) then (some (rd y121 bt124.1, bt124.2)) else (none)) else (none))) = some (r1, r2) := by first | (rw [hy121]; with_reducible exact H) | (have H2_ := (Option.bind_some _ _).symm.trans H; rw [hy121]; with_reducible exact H2_) | (have H2_ := (Option.bind_some _ _).symm.trans H; with_reducible exact H2_) | with_reducible exact H | (rw [hy121]; exact H) | exact H
  have Ny121 := Aside0.mk hy121
  clear hy121
  replace H := Option.bind_eq_some_iff.mp H
  obtain ⟨⟨t124, t125⟩, A40, H⟩ := H
  replace H : (if 0 ≤ t124 then (if t124 < (y121.length : Int) then (some (rd y121 t124, t125)) else (none)) else (none)) = some (r1, r2) := H
  have A4 := Aside0.mk A40
  clear A40
  by_cases c5 : 0 ≤ t124
  ·rw [if_pos c5] at H
   have c5b0 : decide (0 ≤ t124) = true := decide_eq_true c5
   clear c5
   by_cases c6 : t124 < (y121.length : Int)
   ·rw [if_pos c6] at H
    have c6b0 : decide (t124 < (y121.length : Int)) = true := decide_eq_true c6
    clear c6
    simp only [Option.some.injEq, Prod.mk.injEq] at H
    obtain ⟨rfl, rfl⟩ := H
    go_enter Try.func46, Try.ntmps46
    go_wp2_with (first | ((with_reducible refine gate_callee (f := 53) rfl ?_); refine gL 4 Try.func53 #[.pointer (some ⟨g, 0, none⟩), .int .i64 10] ?_; (with_reducible refine (spec_l6Rd_pick.calls k g s0_0 s0_1 10 t119 t120 w0 _ ?side1 ?side2 A2.out).mono ?_); (case side1 => exact IsS70.go_ HI0); (case side2 => exact hsI_ HB); rintro e w7 ⟨rfl, hi, hb, hk⟩; refine ⟨_, rfl, ?_⟩; replace HK := Aside0.mk (KeepBut.trans (hk_ HK) hk (.inl rfl)); replace HB := Aside0.mk (hb); replace HI0 := Aside0.mk (hi); clear hi hb hk) | ((with_reducible refine gate_dst (N := 7) rfl ?_); refine Kd.R_lit (Kd.int .i64) _ 3 ?hg (N := 7) ?hd (xs := ([1000000000, (-1000000000), 500000000, (-500000000), 0, 1000000001, (-1000000001)] : List Int)) (inner := [.int .i64 1000000000, .int .i64 (-1000000000), .int .i64 500000000, .int .i64 (-500000000), .int .i64 0, .int .i64 1000000001, .int .i64 (-1000000001)]) (ok := fun _ => True) (okp := fun _ => True) ?hr ?hp (fun _ hk => hk) trivial (Below.refl _ _) (Nat.le_refl _) (by simp) ?_; (case hd => rfl); (case hg => rfl); (case hr => first | (go_simp; done) | (go_simp; rfl)); (case hp => exact (Reps.one (show Kd.M (Kd.int .i64) _ _ _ 1000000000 [.int .i64 1000000000] from rfl) (Reps.one (show Kd.M (Kd.int .i64) _ _ _ (-1000000000) [.int .i64 (-1000000000)] from rfl) (Reps.one (show Kd.M (Kd.int .i64) _ _ _ 500000000 [.int .i64 500000000] from rfl) (Reps.one (show Kd.M (Kd.int .i64) _ _ _ (-500000000) [.int .i64 (-500000000)] from rfl) (Reps.one (show Kd.M (Kd.int .i64) _ _ _ 0 [.int .i64 0] from rfl) (Reps.one (show Kd.M (Kd.int .i64) _ _ _ 1000000001 [.int .i64 1000000001] from rfl) (Reps.one (show Kd.M (Kd.int .i64) _ _ _ (-1000000001) [.int .i64 (-1000000001)] from rfl) (Reps.none _ _))))))))); intro v122 w8 ho9 hb hg_ hnew_; clear hg_ hnew_; (first | rw [← Ny121.out] at ho9 | (simp only [Int.reduceToNat] at ho9; rw [← Ny121.out] at ho9)); have HO123 := Aside0.mk (Kd.R_lower ho9 (keep_size (w := w) (g := g) (row := none) (hk_ HK))); replace HI0 := Aside0.mk (IsS70.below (IsS70.go_ HI0) hb); replace HK := Aside0.mk (KeepBut.trans (hk_ HK) (KeepBut.of_below hb g none) (.inl rfl)); replace HB := hbb (hsI_ HB) hb; clear hb ho9) | ((with_reducible refine gate_callee (f := 53) rfl ?_); refine gL 9 Try.func53 #[.pointer (some ⟨g, 0, none⟩), .int .i64 7] ?_; (with_reducible refine (spec_l6Rd_pick.calls k g s0_0 t120 7 t124 t125 w0 _ ?side1 ?side2 A4.out).mono ?_); (case side1 => exact IsS70.go_ HI0); (case side2 => exact hsI_ HB); rintro e w10 ⟨rfl, hi, hb, hk⟩; refine ⟨_, rfl, ?_⟩; replace HO123 := Aside0.mk (Kd.R_mono (Kd.R_keep (IsS70.apart (show IsS70 w0 _ g s0_0 t120 from IsS70.go_ HI0) (by (with_reducible repeat (first | apply Kd.R_alloc | apply Kd.R_drewN | apply Kd.R_drew)); exact HO123.out) (by decide)) hk (fun _ h => h.2)) (fun _ h => h.1)); replace HK := Aside0.mk (KeepBut.trans (hk_ HK) hk (.inl rfl)); replace HB := Aside0.mk (hb); replace HI0 := Aside0.mk (hi); clear hi hb hk; obtain ⟨Ao11, co11, eo11⟩ := Kd.R_slice HO123.out; subst eo11; have p126 : 0 ≤ (t124 : Int) := of_decide_eq_true (by first | (with_reducible assumption) | assumption); have q126 : t124 < (y121.length : Int) := of_decide_eq_true (by first | (with_reducible assumption) | assumption); obtain ⟨ad126, e126, hx126_0⟩ := Kd.at_int (Kd.R_reads' HO123.out).2.2 t124 p126 q126; cases e126; replace p126 := eq_true p126; replace q126 := eq_true q126))
    go_ret
    exact ⟨by first | rfl | (simp [errW_none, errW_some] <;> rfl) | (simp [*, errW_none, errW_some] <;> rfl), IsS70.go_ HI0, hsI_ HB, hk_ HK⟩
   ·rw [if_neg c6] at H
    exact absurd H (by simp)
  ·rw [if_neg c5] at H
   exact absurd H (by simp)
 ·rw [if_neg c3] at H
  have c3b0 : (t119 == 0) = false := beq_eq_false_iff_ne.mpr c3
  have c3b1 : (t119 != 0) = true := bne_iff_ne.mpr c3
  by_cases c12 : t119 = 1
  ·rw [if_pos c12] at H
   have c12b0 : (t119 == 1) = true := beq_iff_eq.mpr c12
   have c12b1 : (t119 != 1) = false := bne_eq_false_iff_eq.mpr c12
   clear c12
   replace H := Option.bind_eq_some_iff.mp H
   obtain ⟨⟨t127, t128⟩, A130, H⟩ := H
   replace H : (some (wrap64 (1000000000 - t127), t128)) = some (r1, r2) := H
   have A13 := Aside0.mk A130
   clear A130
   simp only [Option.some.injEq, Prod.mk.injEq] at H
   obtain ⟨rfl, rfl⟩ := H
   go_enter Try.func46, Try.ntmps46
   go_wp2_with (first | ((with_reducible refine gate_callee (f := 53) rfl ?_); refine gL 4 Try.func53 #[.pointer (some ⟨g, 0, none⟩), .int .i64 10] ?_; (with_reducible refine (spec_l6Rd_pick.calls k g s0_0 s0_1 10 t119 t120 w0 _ ?side1 ?side2 A2.out).mono ?_); (case side1 => exact IsS70.go_ HI0); (case side2 => exact hsI_ HB); rintro e w14 ⟨rfl, hi, hb, hk⟩; refine ⟨_, rfl, ?_⟩; replace HK := Aside0.mk (KeepBut.trans (hk_ HK) hk (.inl rfl)); replace HB := Aside0.mk (hb); replace HI0 := Aside0.mk (hi); clear hi hb hk) | ((with_reducible refine gate_callee (f := 53) rfl ?_); refine gL 15 Try.func53 #[.pointer (some ⟨g, 0, none⟩), .int .i64 1000] ?_; (with_reducible refine (spec_l6Rd_pick.calls k g s0_0 t120 1000 t127 t128 w0 _ ?side1 ?side2 A13.out).mono ?_); (case side1 => exact IsS70.go_ HI0); (case side2 => exact hsI_ HB); rintro e w15 ⟨rfl, hi, hb, hk⟩; refine ⟨_, rfl, ?_⟩; replace HK := Aside0.mk (KeepBut.trans (hk_ HK) hk (.inl rfl)); replace HB := Aside0.mk (hb); replace HI0 := Aside0.mk (hi); clear hi hb hk))
   go_ret
   exact ⟨by first | rfl | (simp [errW_none, errW_some] <;> rfl) | (simp [*, errW_none, errW_some] <;> rfl), IsS70.go_ HI0, hsI_ HB, hk_ HK⟩
  ·rw [if_neg c12] at H
   have c12b0 : (t119 == 1) = false := beq_eq_false_iff_ne.mpr c12
   have c12b1 : (t119 != 1) = true := bne_iff_ne.mpr c12
   replace H := Option.bind_eq_some_iff.mp H
   obtain ⟨⟨t129, t130⟩, A160, H⟩ := H
   replace H : (some (t129, t130)) = some (r1, r2) := H
   have A16 := Aside0.mk A160
   clear A160
   simp only [Option.some.injEq, Prod.mk.injEq] at H
   obtain ⟨rfl, rfl⟩ := H
   go_enter Try.func46, Try.ntmps46
   go_wp2_with (first | ((with_reducible refine gate_callee (f := 53) rfl ?_); refine gL 4 Try.func53 #[.pointer (some ⟨g, 0, none⟩), .int .i64 10] ?_; (with_reducible refine (spec_l6Rd_pick.calls k g s0_0 s0_1 10 t119 t120 w0 _ ?side1 ?side2 A2.out).mono ?_); (case side1 => exact IsS70.go_ HI0); (case side2 => exact hsI_ HB); rintro e w17 ⟨rfl, hi, hb, hk⟩; refine ⟨_, rfl, ?_⟩; replace HK := Aside0.mk (KeepBut.trans (hk_ HK) hk (.inl rfl)); replace HB := Aside0.mk (hb); replace HI0 := Aside0.mk (hi); clear hi hb hk) | ((with_reducible refine gate_callee (f := 52) rfl ?_); refine gL 18 Try.func52 #[.pointer (some ⟨g, 0, none⟩), .int .i64 1000000000] ?_; (with_reducible refine (spec_l71Big.calls k g s0_0 t120 1000000000 t129 t130 w0 _ ?side1 ?side2 A16.out).mono ?_); (case side1 => exact IsS70.go_ HI0); (case side2 => exact hsI_ HB); rintro e w18 ⟨rfl, hi, hb, hk⟩; refine ⟨_, rfl, ?_⟩; replace HK := Aside0.mk (KeepBut.trans (hk_ HK) hk (.inl rfl)); replace HB := Aside0.mk (hb); replace HI0 := Aside0.mk (hi); clear hi hb hk))
   go_ret
   exact ⟨by first | rfl | (simp [errW_none, errW_some] <;> rfl) | (simp [*, errW_none, errW_some] <;> rfl), IsS70.go_ HI0, hsI_ HB, hk_ HK⟩


/-! ### spec_DrawSineBack: function 18 -/
def spec_DrawSineBack.f (k : Nat) (l0 : List Int) : Option (Int) := (spec_l6Open.f l0).bind fun bt131 => ((spec_l71Sine.f k bt131.1 bt131.2).bind fun bt134 => (some bt134.1))
theorem spec_DrawSineBack.mono : ∀ a0 k, LeO (spec_DrawSineBack.f k a0) (spec_DrawSineBack.f (k + 1) a0) := by
 intro a0 k
 unfold spec_DrawSineBack.f
 repeat' first
   | (with_reducible exact spec_l71Sine.mono _ _ _)
   | (with_reducible exact LeO.refl _)
   | (with_reducible exact LeO.none _)
   | (with_reducible refine LeO.ite ?_ ?_)
   | (with_reducible refine LeO.bind ?_ (fun _ => ?_))
   | exact spec_l71Sine.mono _ _ _
   | exact LeO.none _
   | refine LeO.ite ?_ ?_
   | refine LeO.bind ?_ (fun _ => ?_)
set_option maxHeartbeats 8000000 in
set_option maxRecDepth 100000 in
theorem spec_DrawSineBack.calls (k : Nat) (A0 : Option Addr) (c0 : Nat) (l0 : List Int) (r : Int) (w : World) (hr0 : Kd.C (Kd.int .u8) w A0 l0.length l0) (hc0 : l0.length ≤ c0) (h : spec_DrawSineBack.f k l0 = some r) :
  Calls Try.prog 18 #[.slice A0 l0.length c0] w fun e w' => e = .returned (.int .i64 r) ∧ Below w.heap.size w w' := by
 have HR0 := Aside0.mk hr0
 have HC0 := Aside0.mk hc0
 clear hr0 hc0
 have HB := Aside0.mk (Below.refl w.heap.size w)
 have H : ((spec_l6Open.f l0).bind fun bt131 => ((spec_l71Sine.f k bt131.1 bt131.2).bind fun bt134 => (some bt134.1))) = some r := h
 clear h
 replace H := Option.bind_eq_some_iff.mp H
 obtain ⟨⟨t131, t132⟩, A20, H⟩ := H
 replace H : ((spec_l71Sine.f k t131 t132).bind fun bt134 => (some bt134.1)) = some r := H
 have A2 := Aside0.mk A20
 clear A20
 replace H := Option.bind_eq_some_iff.mp H
 obtain ⟨⟨t134, t135⟩, A30, H⟩ := H
 replace H : (some t134) = some r := H
 have A3 := Aside0.mk A30
 clear A30
 obtain rfl := Option.some.inj H
 go_enter Try.func18, Try.ntmps18
 go_wp2_with (first | ((with_reducible refine gate_callee (f := 47) rfl ?_); refine gL 4 Try.func47 #[.slice A0 l0.length c0] ?_; (with_reducible refine (spec_l6Open.calls _ _ l0 t131 t132 w _ ?side1 ?side2 ?side3 A2.out).mono ?_); (case side1 => exact h0_ HB); (case side2 => exact HR0.out); (case side3 => exact HC0.out); rintro e w4 ⟨g133, rfl, hi, hb, hb2⟩; refine ⟨_, rfl, ?_⟩; have HI133 := Aside0.mk (hi); replace HB := Aside0.mk (hb); (try clear hb); (try clear hb2); (try clear hk); (try clear hi)) | ((with_reducible refine gate_callee (f := 46) rfl ?_); refine gL 5 Try.func46 #[.pointer (some ⟨g133, 0, none⟩)] ?_; (with_reducible refine (spec_l71Sine.calls k g133 t131 t132 t134 t135 w _ ?side1 ?side2 A3.out).mono ?_); (case side1 => exact IsS70.go_ HI133); (case side2 => exact hsI_ HB); rintro e w5 ⟨rfl, hi, hb, hk⟩; refine ⟨_, rfl, ?_⟩; replace HB := Aside0.mk (hb); replace HI133 := Aside0.mk (hi); clear hi hb hk))
 go_ret
 exact ⟨by first | rfl | (simp [errW_none, errW_some] <;> rfl) | (simp [*, errW_none, errW_some] <;> rfl), hsI_ HB⟩


/-! ### spec_DrawCosBack: function 22 -/
def spec_DrawCosBack.f (k : Nat) (l0 : List Int) : Option (Int) := (spec_l6Open.f l0).bind fun bt134 => ((spec_l71Sine.f k bt134.1 bt134.2).bind fun bt137 => (some bt137.1))
theorem spec_DrawCosBack.mono : ∀ a0 k, LeO (spec_DrawCosBack.f k a0) (spec_DrawCosBack.f (k + 1) a0) := by
 intro a0 k
 unfold spec_DrawCosBack.f
 repeat' first
   | (with_reducible exact spec_l71Sine.mono _ _ _)
   | (with_reducible exact LeO.refl _)
   | (with_reducible exact LeO.none _)
   | (with_reducible refine LeO.ite ?_ ?_)
   | (with_reducible refine LeO.bind ?_ (fun _ => ?_))
   | exact spec_l71Sine.mono _ _ _
   | exact LeO.none _
   | refine LeO.ite ?_ ?_
   | refine LeO.bind ?_ (fun _ => ?_)
set_option maxHeartbeats 8000000 in
set_option maxRecDepth 100000 in
theorem spec_DrawCosBack.calls (k : Nat) (A0 : Option Addr) (c0 : Nat) (l0 : List Int) (r : Int) (w : World) (hr0 : Kd.C (Kd.int .u8) w A0 l0.length l0) (hc0 : l0.length ≤ c0) (h : spec_DrawCosBack.f k l0 = some r) :
  Calls Try.prog 22 #[.slice A0 l0.length c0] w fun e w' => e = .returned (.int .i64 r) ∧ Below w.heap.size w w' := by
 have HR0 := Aside0.mk hr0
 have HC0 := Aside0.mk hc0
 clear hr0 hc0
 have HB := Aside0.mk (Below.refl w.heap.size w)
 have H : ((spec_l6Open.f l0).bind fun bt134 => ((spec_l71Sine.f k bt134.1 bt134.2).bind fun bt137 => (some bt137.1))) = some r := h
 clear h
 replace H := Option.bind_eq_some_iff.mp H
 obtain ⟨⟨t134, t135⟩, A20, H⟩ := H
 replace H : ((spec_l71Sine.f k t134 t135).bind fun bt137 => (some bt137.1)) = some r := H
 have A2 := Aside0.mk A20
 clear A20
 replace H := Option.bind_eq_some_iff.mp H
 obtain ⟨⟨t137, t138⟩, A30, H⟩ := H
 replace H : (some t137) = some r := H
 have A3 := Aside0.mk A30
 clear A30
 obtain rfl := Option.some.inj H
 go_enter Try.func22, Try.ntmps22
 go_wp2_with (first | ((with_reducible refine gate_callee (f := 47) rfl ?_); refine gL 4 Try.func47 #[.slice A0 l0.length c0] ?_; (with_reducible refine (spec_l6Open.calls _ _ l0 t134 t135 w _ ?side1 ?side2 ?side3 A2.out).mono ?_); (case side1 => exact h0_ HB); (case side2 => exact HR0.out); (case side3 => exact HC0.out); rintro e w4 ⟨g136, rfl, hi, hb, hb2⟩; refine ⟨_, rfl, ?_⟩; have HI136 := Aside0.mk (hi); replace HB := Aside0.mk (hb); (try clear hb); (try clear hb2); (try clear hk); (try clear hi)) | ((with_reducible refine gate_callee (f := 46) rfl ?_); refine gL 5 Try.func46 #[.pointer (some ⟨g136, 0, none⟩)] ?_; (with_reducible refine (spec_l71Sine.calls k g136 t134 t135 t137 t138 w _ ?side1 ?side2 A3.out).mono ?_); (case side1 => exact IsS70.go_ HI136); (case side2 => exact hsI_ HB); rintro e w5 ⟨rfl, hi, hb, hk⟩; refine ⟨_, rfl, ?_⟩; replace HB := Aside0.mk (hb); replace HI136 := Aside0.mk (hi); clear hi hb hk))
 go_ret
 exact ⟨by first | rfl | (simp [errW_none, errW_some] <;> rfl) | (simp [*, errW_none, errW_some] <;> rfl), hsI_ HB⟩


/-! ### spec_DrawWayOf: function 28 -/
def spec_DrawWayOf.f (k : Nat) (l0 : List Int) : Option (Int × Int) := (spec_l6Open.f l0).bind fun bt131 => ((spec_l71Sine.f k bt131.1 bt131.2).bind fun bt134 => ((spec_l71Sine.f k bt131.1 bt134.2).bind fun bt136 => ((spec_l6Rd_pick.f k bt131.1 bt136.2 6).bind fun bt138 => (if bt138.1 = 0 then (some (0, bt136.1)) else (if bt138.1 = 1 then (some (bt134.1, 0)) else (if bt138.1 = 2 then (some (bt134.1, bt134.1)) else (some (bt134.1, bt136.1))))))))
theorem spec_DrawWayOf.mono : ∀ a0 k, LeO (spec_DrawWayOf.f k a0) (spec_DrawWayOf.f (k + 1) a0) := by
 intro a0 k
 unfold spec_DrawWayOf.f
 repeat' first
   | (with_reducible exact spec_l6Rd_pick.mono _ _ _ _)
   | (with_reducible exact spec_l71Sine.mono _ _ _)
   | (with_reducible exact LeO.refl _)
   | (with_reducible exact LeO.none _)
   | (with_reducible refine LeO.ite ?_ ?_)
   | (with_reducible refine LeO.bind ?_ (fun _ => ?_))
   | exact spec_l6Rd_pick.mono _ _ _ _
   | exact spec_l71Sine.mono _ _ _
   | exact LeO.none _
   | refine LeO.ite ?_ ?_
   | refine LeO.bind ?_ (fun _ => ?_)
set_option maxHeartbeats 8000000 in
set_option maxRecDepth 100000 in
theorem spec_DrawWayOf.calls (k : Nat) (A0 : Option Addr) (c0 : Nat) (l0 : List Int) (r1 : Int) (r2 : Int) (w : World) (hr0 : Kd.C (Kd.int .u8) w A0 l0.length l0) (hc0 : l0.length ≤ c0) (h : spec_DrawWayOf.f k l0 = some (r1, r2)) :
  Calls Try.prog 28 #[.slice A0 l0.length c0] w fun e w' => e = .returned (.tuple #[.int .i64 r1, .int .i64 r2]) ∧ Below w.heap.size w w' := by
 have HR0 := Aside0.mk hr0
 have HC0 := Aside0.mk hc0
 clear hr0 hc0
 have HB := Aside0.mk (Below.refl w.heap.size w)
 have H : ((spec_l6Open.f l0).bind fun bt131 => ((spec_l71Sine.f k bt131.1 bt131.2).bind fun bt134 => ((spec_l71Sine.f k bt131.1 bt134.2).bind fun bt136 => ((spec_l6Rd_pick.f k bt131.1 bt136.2 6).bind fun bt138 => (if bt138.1 = 0 then (some (0, bt136.1)) else (if bt138.1 = 1 then (some (bt134.1, 0)) else (if bt138.1 = 2 then (some (bt134.1, bt134.1)) else (some (bt134.1, bt136.1))))))))) = some (r1, r2) := h
 clear h
 replace H := Option.bind_eq_some_iff.mp H
 obtain ⟨⟨t131, t132⟩, A20, H⟩ := H
 replace H : ((spec_l71Sine.f k t131 t132).bind fun bt134 => ((spec_l71Sine.f k t131 bt134.2).bind fun bt136 => ((spec_l6Rd_pick.f k t131 bt136.2 6).bind fun bt138 => (if bt138.1 = 0 then (some (0, bt136.1)) else (if bt138.1 = 1 then (some (bt134.1, 0)) else (if bt138.1 = 2 then (some (bt134.1, bt134.1)) else (some (bt134.1, bt136.1)))))))) = some (r1, r2) := H
 have A2 := Aside0.mk A20
 clear A20
 replace H := Option.bind_eq_some_iff.mp H
 obtain ⟨⟨t134, t135⟩, A30, H⟩ := H
 replace H : ((spec_l71Sine.f k t131 t135).bind fun bt136 => ((spec_l6Rd_pick.f k t131 bt136.2 6).bind fun bt138 => (if bt138.1 = 0 then (some (0, bt136.1)) else (if bt138.1 = 1 then (some (t134, 0)) else (if bt138.1 = 2 then (some (t134, t134)) else (some (t134, bt136.1))))))) = some (r1, r2) := H
 have A3 := Aside0.mk A30
 clear A30
 replace H := Option.bind_eq_some_iff.mp H
 obtain ⟨⟨t136, t137⟩, A40, H⟩ := H
 replace H : ((spec_l6Rd_pick.f k t131 t137 6).bind fun bt138 => (if bt138.1 = 0 then (some (0, t136)) else (if bt138.1 = 1 then (some (t134, 0)) else (if bt138.1 = 2 then (some (t134, t134)) else (some (t134, t136)))))) = some (r1, r2) := H
 have A4 := Aside0.mk A40
 clear A40
 replace H := Option.bind_eq_some_iff.mp H
 obtain ⟨⟨t138, t139⟩, A50, H⟩ := H
 replace H : (if t138 = 0 then (some (0, t136)) else (if t138 = 1 then (some (t134, 0)) else (if t138 = 2 then (some (t134, t134)) else (some (t134, t136))))) = some (r1, r2) := H
 have A5 := Aside0.mk A50
 clear A50
 by_cases c6 : t138 = 0
 ·rw [if_pos c6] at H
  have c6b0 : (t138 == 0) = true := beq_iff_eq.mpr c6
  have c6b1 : (t138 != 0) = false := bne_eq_false_iff_eq.mpr c6
  clear c6
  simp only [Option.some.injEq, Prod.mk.injEq] at H
  obtain ⟨rfl, rfl⟩ := H
  go_enter Try.func28, Try.ntmps28
  go_wp2_with (first | ((with_reducible refine gate_callee (f := 47) rfl ?_); refine gL 8 Try.func47 #[.slice A0 l0.length c0] ?_; (with_reducible refine (spec_l6Open.calls _ _ l0 t131 t132 w _ ?side1 ?side2 ?side3 A2.out).mono ?_); (case side1 => exact h0_ HB); (case side2 => exact HR0.out); (case side3 => exact HC0.out); rintro e w7 ⟨g133, rfl, hi, hb, hb2⟩; refine ⟨_, rfl, ?_⟩; have HI133 := Aside0.mk (hi); replace HB := Aside0.mk (hb); (try clear hb); (try clear hb2); (try clear hk); (try clear hi)) | ((with_reducible refine gate_callee (f := 46) rfl ?_); refine gL 10 Try.func46 #[.pointer (some ⟨g133, 0, none⟩)] ?_; (with_reducible refine (spec_l71Sine.calls k g133 t131 t132 t134 t135 w _ ?side1 ?side2 A3.out).mono ?_); (case side1 => exact IsS70.go_ HI133); (case side2 => exact hsI_ HB); rintro e w8 ⟨rfl, hi, hb, hk⟩; refine ⟨_, rfl, ?_⟩; replace HB := Aside0.mk (hb); replace HI133 := Aside0.mk (hi); clear hi hb hk) | ((with_reducible refine gate_callee (f := 46) rfl ?_); refine gL 12 Try.func46 #[.pointer (some ⟨g133, 0, none⟩)] ?_; (with_reducible refine (spec_l71Sine.calls k g133 t131 t135 t136 t137 w _ ?side1 ?side2 A4.out).mono ?_); (case side1 => exact IsS70.go_ HI133); (case side2 => exact hsI_ HB); rintro e w9 ⟨rfl, hi, hb, hk⟩; refine ⟨_, rfl, ?_⟩; replace HB := Aside0.mk (hb); replace HI133 := Aside0.mk (hi); clear hi hb hk) | ((with_reducible refine gate_callee (f := 53) rfl ?_); refine gL 14 Try.func53 #[.pointer (some ⟨g133, 0, none⟩), .int .i64 6] ?_; (with_reducible refine (spec_l6Rd_pick.calls k g133 t131 t137 6 t138 t139 w _ ?side1 ?side2 A5.out).mono ?_); (case side1 => exact IsS70.go_ HI133); (case side2 => exact hsI_ HB); rintro e w10 ⟨rfl, hi, hb, hk⟩; refine ⟨_, rfl, ?_⟩; replace HB := Aside0.mk (hb); replace HI133 := Aside0.mk (hi); clear hi hb hk))
  go_ret2
  exact ⟨by first | rfl | (simp [errW_none, errW_some] <;> rfl) | (simp [*, errW_none, errW_some] <;> rfl), hsI_ HB⟩
 ·rw [if_neg c6] at H
  have c6b0 : (t138 == 0) = false := beq_eq_false_iff_ne.mpr c6
  have c6b1 : (t138 != 0) = true := bne_iff_ne.mpr c6
  by_cases c11 : t138 = 1
  ·rw [if_pos c11] at H
   have c11b0 : (t138 == 1) = true := beq_iff_eq.mpr c11
   have c11b1 : (t138 != 1) = false := bne_eq_false_iff_eq.mpr c11
   clear c11
   simp only [Option.some.injEq, Prod.mk.injEq] at H
   obtain ⟨rfl, rfl⟩ := H
   go_enter Try.func28, Try.ntmps28
   go_wp2_with (first | ((with_reducible refine gate_callee (f := 47) rfl ?_); refine gL 8 Try.func47 #[.slice A0 l0.length c0] ?_; (with_reducible refine (spec_l6Open.calls _ _ l0 t131 t132 w _ ?side1 ?side2 ?side3 A2.out).mono ?_); (case side1 => exact h0_ HB); (case side2 => exact HR0.out); (case side3 => exact HC0.out); rintro e w12 ⟨g133, rfl, hi, hb, hb2⟩; refine ⟨_, rfl, ?_⟩; have HI133 := Aside0.mk (hi); replace HB := Aside0.mk (hb); (try clear hb); (try clear hb2); (try clear hk); (try clear hi)) | ((with_reducible refine gate_callee (f := 46) rfl ?_); refine gL 10 Try.func46 #[.pointer (some ⟨g133, 0, none⟩)] ?_; (with_reducible refine (spec_l71Sine.calls k g133 t131 t132 t134 t135 w _ ?side1 ?side2 A3.out).mono ?_); (case side1 => exact IsS70.go_ HI133); (case side2 => exact hsI_ HB); rintro e w13 ⟨rfl, hi, hb, hk⟩; refine ⟨_, rfl, ?_⟩; replace HB := Aside0.mk (hb); replace HI133 := Aside0.mk (hi); clear hi hb hk) | ((with_reducible refine gate_callee (f := 46) rfl ?_); refine gL 12 Try.func46 #[.pointer (some ⟨g133, 0, none⟩)] ?_; (with_reducible refine (spec_l71Sine.calls k g133 t131 t135 t136 t137 w _ ?side1 ?side2 A4.out).mono ?_); (case side1 => exact IsS70.go_ HI133); (case side2 => exact hsI_ HB); rintro e w14 ⟨rfl, hi, hb, hk⟩; refine ⟨_, rfl, ?_⟩; replace HB := Aside0.mk (hb); replace HI133 := Aside0.mk (hi); clear hi hb hk) | ((with_reducible refine gate_callee (f := 53) rfl ?_); refine gL 14 Try.func53 #[.pointer (some ⟨g133, 0, none⟩), .int .i64 6] ?_; (with_reducible refine (spec_l6Rd_pick.calls k g133 t131 t137 6 t138 t139 w _ ?side1 ?side2 A5.out).mono ?_); (case side1 => exact IsS70.go_ HI133); (case side2 => exact hsI_ HB); rintro e w15 ⟨rfl, hi, hb, hk⟩; refine ⟨_, rfl, ?_⟩; replace HB := Aside0.mk (hb); replace HI133 := Aside0.mk (hi); clear hi hb hk))
   go_ret2
   exact ⟨by first | rfl | (simp [errW_none, errW_some] <;> rfl) | (simp [*, errW_none, errW_some] <;> rfl), hsI_ HB⟩
  ·rw [if_neg c11] at H
   have c11b0 : (t138 == 1) = false := beq_eq_false_iff_ne.mpr c11
   have c11b1 : (t138 != 1) = true := bne_iff_ne.mpr c11
   by_cases c16 : t138 = 2
   ·rw [if_pos c16] at H
    have c16b0 : (t138 == 2) = true := beq_iff_eq.mpr c16
    have c16b1 : (t138 != 2) = false := bne_eq_false_iff_eq.mpr c16
    clear c16
    simp only [Option.some.injEq, Prod.mk.injEq] at H
    obtain ⟨rfl, rfl⟩ := H
    go_enter Try.func28, Try.ntmps28
    go_wp2_with (first | ((with_reducible refine gate_callee (f := 47) rfl ?_); refine gL 8 Try.func47 #[.slice A0 l0.length c0] ?_; (with_reducible refine (spec_l6Open.calls _ _ l0 t131 t132 w _ ?side1 ?side2 ?side3 A2.out).mono ?_); (case side1 => exact h0_ HB); (case side2 => exact HR0.out); (case side3 => exact HC0.out); rintro e w17 ⟨g133, rfl, hi, hb, hb2⟩; refine ⟨_, rfl, ?_⟩; have HI133 := Aside0.mk (hi); replace HB := Aside0.mk (hb); (try clear hb); (try clear hb2); (try clear hk); (try clear hi)) | ((with_reducible refine gate_callee (f := 46) rfl ?_); refine gL 10 Try.func46 #[.pointer (some ⟨g133, 0, none⟩)] ?_; (with_reducible refine (spec_l71Sine.calls k g133 t131 t132 t134 t135 w _ ?side1 ?side2 A3.out).mono ?_); (case side1 => exact IsS70.go_ HI133); (case side2 => exact hsI_ HB); rintro e w18 ⟨rfl, hi, hb, hk⟩; refine ⟨_, rfl, ?_⟩; replace HB := Aside0.mk (hb); replace HI133 := Aside0.mk (hi); clear hi hb hk) | ((with_reducible refine gate_callee (f := 46) rfl ?_); refine gL 12 Try.func46 #[.pointer (some ⟨g133, 0, none⟩)] ?_; (with_reducible refine (spec_l71Sine.calls k g133 t131 t135 t136 t137 w _ ?side1 ?side2 A4.out).mono ?_); (case side1 => exact IsS70.go_ HI133); (case side2 => exact hsI_ HB); rintro e w19 ⟨rfl, hi, hb, hk⟩; refine ⟨_, rfl, ?_⟩; replace HB := Aside0.mk (hb); replace HI133 := Aside0.mk (hi); clear hi hb hk) | ((with_reducible refine gate_callee (f := 53) rfl ?_); refine gL 14 Try.func53 #[.pointer (some ⟨g133, 0, none⟩), .int .i64 6] ?_; (with_reducible refine (spec_l6Rd_pick.calls k g133 t131 t137 6 t138 t139 w _ ?side1 ?side2 A5.out).mono ?_); (case side1 => exact IsS70.go_ HI133); (case side2 => exact hsI_ HB); rintro e w20 ⟨rfl, hi, hb, hk⟩; refine ⟨_, rfl, ?_⟩; replace HB := Aside0.mk (hb); replace HI133 := Aside0.mk (hi); clear hi hb hk))
    go_ret2
    exact ⟨by first | rfl | (simp [errW_none, errW_some] <;> rfl) | (simp [*, errW_none, errW_some] <;> rfl), hsI_ HB⟩
   ·rw [if_neg c16] at H
    have c16b0 : (t138 == 2) = false := beq_eq_false_iff_ne.mpr c16
    have c16b1 : (t138 != 2) = true := bne_iff_ne.mpr c16
    simp only [Option.some.injEq, Prod.mk.injEq] at H
    obtain ⟨rfl, rfl⟩ := H
    go_enter Try.func28, Try.ntmps28
    go_wp2_with (first | ((with_reducible refine gate_callee (f := 47) rfl ?_); refine gL 8 Try.func47 #[.slice A0 l0.length c0] ?_; (with_reducible refine (spec_l6Open.calls _ _ l0 t131 t132 w _ ?side1 ?side2 ?side3 A2.out).mono ?_); (case side1 => exact h0_ HB); (case side2 => exact HR0.out); (case side3 => exact HC0.out); rintro e w21 ⟨g133, rfl, hi, hb, hb2⟩; refine ⟨_, rfl, ?_⟩; have HI133 := Aside0.mk (hi); replace HB := Aside0.mk (hb); (try clear hb); (try clear hb2); (try clear hk); (try clear hi)) | ((with_reducible refine gate_callee (f := 46) rfl ?_); refine gL 10 Try.func46 #[.pointer (some ⟨g133, 0, none⟩)] ?_; (with_reducible refine (spec_l71Sine.calls k g133 t131 t132 t134 t135 w _ ?side1 ?side2 A3.out).mono ?_); (case side1 => exact IsS70.go_ HI133); (case side2 => exact hsI_ HB); rintro e w22 ⟨rfl, hi, hb, hk⟩; refine ⟨_, rfl, ?_⟩; replace HB := Aside0.mk (hb); replace HI133 := Aside0.mk (hi); clear hi hb hk) | ((with_reducible refine gate_callee (f := 46) rfl ?_); refine gL 12 Try.func46 #[.pointer (some ⟨g133, 0, none⟩)] ?_; (with_reducible refine (spec_l71Sine.calls k g133 t131 t135 t136 t137 w _ ?side1 ?side2 A4.out).mono ?_); (case side1 => exact IsS70.go_ HI133); (case side2 => exact hsI_ HB); rintro e w23 ⟨rfl, hi, hb, hk⟩; refine ⟨_, rfl, ?_⟩; replace HB := Aside0.mk (hb); replace HI133 := Aside0.mk (hi); clear hi hb hk) | ((with_reducible refine gate_callee (f := 53) rfl ?_); refine gL 14 Try.func53 #[.pointer (some ⟨g133, 0, none⟩), .int .i64 6] ?_; (with_reducible refine (spec_l6Rd_pick.calls k g133 t131 t137 6 t138 t139 w _ ?side1 ?side2 A5.out).mono ?_); (case side1 => exact IsS70.go_ HI133); (case side2 => exact hsI_ HB); rintro e w24 ⟨rfl, hi, hb, hk⟩; refine ⟨_, rfl, ?_⟩; replace HB := Aside0.mk (hb); replace HI133 := Aside0.mk (hi); clear hi hb hk))
    go_ret2
    exact ⟨by first | rfl | (simp [errW_none, errW_some] <;> rfl) | (simp [*, errW_none, errW_some] <;> rfl), hsI_ HB⟩


end Go.Proofs.Ytcdgplkmahabiaa.M
