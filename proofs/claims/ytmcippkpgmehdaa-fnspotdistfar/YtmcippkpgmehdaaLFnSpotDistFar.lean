import Derived.Test.YtmcippkpgmehdaaP5
import Derived.Test.YtmcippkpgmehdaaP7
import Derived.Test.YtmcippkpgmehdaaP8
import Derived.Test.YtmcippkpgmehdaaDd
namespace Go.Proofs.Ytmcippkpgmehdaa.M
open Go.RowKit Go.Proofs.YtmcippkpgmehdaaW.PrintWords Go.Proofs.YtmcippkpgmehdaaW.PrintLast Go.Proofs.YtmcippkpgmehdaaW.PrintMore
attribute [local go_sem] max2_int min2_int max_two min_two max_three min_three max_four min_four
attribute [local go_sem high] eqA42 eqA29 eqA24
attribute [local go_sem] fld42_0 fld42_1 fld29_0 fld29_1 fld24_0 fld24_1 fld38_0 fld38_1 fld88_0 fld88_1 fld88_2 fld88_3 fld88_4
set_option linter.unusedVariables false
set_option linter.unusedSimpArgs false
/-! ### laws_FnSpotDistFar: function 13 -/
def laws_FnSpotDistFar.j0 : Nat → Bool → Bool → Bool → Int → Int → Int → Int → Int → Int → Int → Int → Option (Bool)
 | 0, _, _, _, _, _, _, _, _, _, _, _ => none
 | k + 1, x6, x8, x44, x501000, x501001, x502000, x502001, x506000, x506001, x510000, x510001 => if x44 = true then (if (x8 == x6) = true then (some (x510000 == x506000 && (x510001 == x506001))) else (some false)) else ((impl_SpotFar.f x502000 x502001).bind fun bt510 => ((impl_SpotDist.f k x501000 x501001 bt510.1 bt510.2.1).bind fun bt514 => (if bt514.2.2 = true then (if (wrap64 (x510000 + bt514.1)) ≤ 64800000 then (some (decide ((wrap64 (x510001 + bt514.2.1)) ≥ 64800000))) else (some false)) else (some false))))
def laws_FnSpotDistFar.f (k : Nat) (l0 : List Int) : Option (Bool) := if (l0.length : Int) > 1048576 then (some true) else ((spec_DrawSpotDist.f k l0).bind fun bt496 => ((spec_SpotDist.f k bt496.1 bt496.2.1 bt496.2.2.1 bt496.2.2.2).bind fun bt502 => ((impl_SpotDist.f k bt496.1 bt496.2.1 bt496.2.2.1 bt496.2.2.2).bind fun bt506 => (if (bt506.2.2 != bt502.2.2) = true then (laws_FnSpotDistFar.j0 k bt502.2.2 bt506.2.2 true bt496.1 bt496.2.1 bt496.2.2.1 bt496.2.2.2 bt502.1 bt502.2.1 bt506.1 bt506.2.1) else (if (!(bt506.1 == bt502.1) || (!(bt506.2.1 == bt502.2.1))) = true then (laws_FnSpotDistFar.j0 k bt502.2.2 bt506.2.2 true bt496.1 bt496.2.1 bt496.2.2.1 bt496.2.2.2 bt502.1 bt502.2.1 bt506.1 bt506.2.1) else (laws_FnSpotDistFar.j0 k bt502.2.2 bt506.2.2 (!bt506.2.2) bt496.1 bt496.2.1 bt496.2.2.1 bt496.2.2.2 bt502.1 bt502.2.1 bt506.1 bt506.2.1))))))
set_option maxHeartbeats 8000000 in
set_option maxRecDepth 100000 in
theorem laws_FnSpotDistFar.calls (k : Nat) (A0 : Option Addr) (c0 : Nat) (l0 : List Int) (r : Bool) (w : World) (hr0 : Kd.C (Kd.int .u8) w A0 l0.length l0) (hc0 : l0.length ≤ c0) (h : laws_FnSpotDistFar.f k l0 = some r) :
  Calls Try.prog 13 #[.slice A0 l0.length c0] w fun e w' => e = .returned (.bool r) ∧ Below w.heap.size w w' := by
 have hu24 := Try.underlying24
 have hu29 := Try.underlying29
 have HR0 := Aside0.mk hr0
 have HC0 := Aside0.mk hc0
 clear hr0 hc0
 have HB := Aside0.mk (Below.refl w.heap.size w)
 have H : (if (l0.length : Int) > 1048576 then (some true) else ((spec_DrawSpotDist.f k l0).bind fun bt496 => ((spec_SpotDist.f k bt496.1 bt496.2.1 bt496.2.2.1 bt496.2.2.2).bind fun bt502 => ((impl_SpotDist.f k bt496.1 bt496.2.1 bt496.2.2.1 bt496.2.2.2).bind fun bt506 => (if (bt506.2.2 != bt502.2.2) = true then (laws_FnSpotDistFar.j0 k bt502.2.2 bt506.2.2 true bt496.1 bt496.2.1 bt496.2.2.1 bt496.2.2.2 bt502.1 bt502.2.1 bt506.1 bt506.2.1) else (if (!(bt506.1 == bt502.1) || (!(bt506.2.1 == bt502.2.1))) = true then (laws_FnSpotDistFar.j0 k bt502.2.2 bt506.2.2 true bt496.1 bt496.2.1 bt496.2.2.1 bt496.2.2.2 bt502.1 bt502.2.1 bt506.1 bt506.2.1) else (laws_FnSpotDistFar.j0 k bt502.2.2 bt506.2.2 (!bt506.2.2) bt496.1 bt496.2.1 bt496.2.2.1 bt496.2.2.2 bt502.1 bt502.2.1 bt506.1 bt506.2.1))))))) = some r := h
 clear h
 by_cases c2 : (l0.length : Int) > 1048576
 ·rw [if_pos c2] at H
  have c2b0 : decide (1048576 < (l0.length : Int)) = true := decide_eq_true c2
  have c2b1 : decide (1048576 < l0.length) = true := decide_eq_true (by omega)
  clear c2
  obtain rfl := Option.some.inj H
  go_enter Try.func13, Try.ntmps13
  go_wp2
  go_ret
  exact ⟨by first | rfl | (simp [errW_none, errW_some] <;> rfl) | (simp [*, errW_none, errW_some] <;> rfl), h0_ HB⟩
 ·rw [if_neg c2] at H
  have c2b0 : decide (1048576 < (l0.length : Int)) = false := decide_eq_false c2
  have c2b1 : decide (1048576 < l0.length) = false := decide_eq_false (by omega)
  clear c2
  replace H := Option.bind_eq_some_iff.mp H
  obtain ⟨⟨t496, t497, t498, t499⟩, A30, H⟩ := H
  replace H : ((spec_SpotDist.f k t496 t497 t498 t499).bind fun bt502 => ((impl_SpotDist.f k t496 t497 t498 t499).bind fun bt506 => (if (bt506.2.2 != bt502.2.2) = true then (laws_FnSpotDistFar.j0 k bt502.2.2 bt506.2.2 true t496 t497 t498 t499 bt502.1 bt502.2.1 bt506.1 bt506.2.1) else (if (!(bt506.1 == bt502.1) || (!(bt506.2.1 == bt502.2.1))) = true then (laws_FnSpotDistFar.j0 k bt502.2.2 bt506.2.2 true t496 t497 t498 t499 bt502.1 bt502.2.1 bt506.1 bt506.2.1) else (laws_FnSpotDistFar.j0 k bt502.2.2 bt506.2.2 (!bt506.2.2) t496 t497 t498 t499 bt502.1 bt502.2.1 bt506.1 bt506.2.1))))) = some r := H
  have A3 := Aside0.mk A30
  clear A30
  replace H := Option.bind_eq_some_iff.mp H
  obtain ⟨⟨t502, t503, t504⟩, A40, H⟩ := H
  replace H : ((impl_SpotDist.f k t496 t497 t498 t499).bind fun bt506 => (if (bt506.2.2 != t504) = true then (laws_FnSpotDistFar.j0 k t504 bt506.2.2 true t496 t497 t498 t499 t502 t503 bt506.1 bt506.2.1) else (if (!(bt506.1 == t502) || (!(bt506.2.1 == t503))) = true then (laws_FnSpotDistFar.j0 k t504 bt506.2.2 true t496 t497 t498 t499 t502 t503 bt506.1 bt506.2.1) else (laws_FnSpotDistFar.j0 k t504 bt506.2.2 (!bt506.2.2) t496 t497 t498 t499 t502 t503 bt506.1 bt506.2.1)))) = some r := H
  have A4 := Aside0.mk A40
  clear A40
  replace H := Option.bind_eq_some_iff.mp H
  obtain ⟨⟨t506, t507, t508⟩, A50, H⟩ := H
  replace H : (if (t508 != t504) = true then (laws_FnSpotDistFar.j0 k t504 t508 true t496 t497 t498 t499 t502 t503 t506 t507) else (if (!(t506 == t502) || (!(t507 == t503))) = true then (laws_FnSpotDistFar.j0 k t504 t508 true t496 t497 t498 t499 t502 t503 t506 t507) else (laws_FnSpotDistFar.j0 k t504 t508 (!t508) t496 t497 t498 t499 t502 t503 t506 t507))) = some r := H
  have A5 := Aside0.mk A50
  clear A50
  have HC6 := Aside0.mk H
  clear H
  go_enter Try.func13, Try.ntmps13
  go_upto_region 6 with (first | ((with_reducible refine gate_callee (f := 35) rfl ?_); refine gL 18 Try.func35 #[.slice A0 l0.length c0] ?_; (with_reducible refine (spec_DrawSpotDist.calls k _ _ l0 t496 t497 t498 t499 _ ?side1 ?side2 A3.out).mono ?_); (case side1 => repeat (first | exact HR0.out | (with_reducible refine Kd.C_alloc ?_ _) | (with_reducible refine Kd.C_drewN ?_ _) | (with_reducible refine Kd.C_drew ?_))); (case side2 => exact HC0.out); rintro e w7 ⟨rfl, hb⟩; refine ⟨_, rfl, ?_⟩; replace HB := hbb (h0_ HB) hb; clear hb) | ((with_reducible refine gate_dst (N := 3) rfl ?_); refine bE 3 #[.int .i64 0, .int .i64 0] 24 ?_; intro gb500 hg w8 hbox hb; have BK500 := Aside0.mk (hbox); have GE500 := gw hg (h0_ HB); have GW500 := GE500; replace HB := hbb (h0_ HB) hb; clear hb hbox hg) | ((with_reducible refine gate_dst (N := 4) rfl ?_); refine bE 4 #[.int .i64 0, .int .i64 0] 24 ?_; intro gb501 hg w9 hbox hb; have BK501 := Aside0.mk (hbox); have GE501 := gw hg (hs_ HB); have GW501 := GE501; have NB500_501 := nl hg (bk BK500); have NB501_500 := ng hg (bk BK500); replace BK500 := bb (bk BK500) hb; replace HB := hbb (hs_ HB) hb; clear hb hbox hg; have hnb10 := NB500_501.out; have hnc10 := NB501_500.out; obtain ⟨hcz11_0, hcz11_1, hfz11_0, hfz11_1⟩ := cz2 BK500; obtain ⟨hcz12_0, hcz12_1, hfz12_0, hfz12_1⟩ := cz2 BK501) | ((with_reducible refine gate_callee (f := 36) rfl ?_); refine gL 24 Try.func36 #[.agg #[.int .i64 t496, .int .i64 t497], .agg #[.int .i64 t498, .int .i64 t499]] ?_; (with_reducible refine (spec_SpotDist.calls k t496 t497 t498 t499 t502 t503 t504 _ A4.out).mono ?_); rintro e w13 ⟨rfl, hb⟩; refine ⟨_, rfl, ?_⟩; replace BK500 := bb (o := .cells #[.int .i64 t496, .int .i64 t497] 24 (0, 0)) (bkp BK500) hb; replace BK501 := bb (o := .cells #[.int .i64 t498, .int .i64 t499] 24 (0, 0)) (bkp BK501) hb; replace HB := hbb (hs_ HB) hb; clear hb) | ((with_reducible refine gate_dst (N := 5) rfl ?_); refine bE 5 #[.int .i64 0, .int .i64 0] 29 ?_; intro gb505 hg w14 hbox hb; have BK505 := Aside0.mk (hbox); have GE505 := gw hg (hs_ HB); have GW505 := GE505; have NB500_505 := nl hg (bk BK500); have NB505_500 := ng hg (bk BK500); have NB501_505 := nl hg (bk BK501); have NB505_501 := ng hg (bk BK501); replace BK500 := bb (bk BK500) hb; replace BK501 := bb (bk BK501) hb; replace HB := hbb (hs_ HB) hb; clear hb hbox hg; have hnb15 := NB505_500.out; have hnc15 := NB500_505.out; have hnb16 := NB505_501.out; have hnc16 := NB501_505.out; obtain ⟨hcz17_0, hcz17_1, hfz17_0, hfz17_1⟩ := cz2 BK505; obtain ⟨hcz18_0, hcz18_1, hfz18_0, hfz18_1⟩ := cz2 BK500; obtain ⟨hcz19_0, hcz19_1, hfz19_0, hfz19_1⟩ := cz2 BK501) | ((with_reducible refine gate_callee (f := 20) rfl ?_); refine gL 30 Try.func20 #[.agg #[.int .i64 t496, .int .i64 t497], .agg #[.int .i64 t498, .int .i64 t499]] ?_; (with_reducible refine (impl_SpotDist.calls k t496 t497 t498 t499 t506 t507 t508 _ A5.out).mono ?_); rintro e w20 ⟨rfl, hb⟩; refine ⟨_, rfl, ?_⟩; replace BK500 := bb (bk1 BK500 NB500_505) hb; replace BK501 := bb (bk1 BK501 NB501_505) hb; replace BK505 := bb (o := .cells #[.int .i64 t502, .int .i64 t503] 29 (0, 0)) (bkp BK505) hb; replace HB := hbb (hs_ HB) hb; clear hb) | ((with_reducible refine gate_dst (N := 7) rfl ?_); refine bE 7 #[.int .i64 0, .int .i64 0] 29 ?_; intro gb509 hg w21 hbox hb; have BK509 := Aside0.mk (hbox); have GE509 := gw hg (hs_ HB); have GW509 := GE509; have NB500_509 := nl hg (bk BK500); have NB509_500 := ng hg (bk BK500); have NB501_509 := nl hg (bk BK501); have NB509_501 := ng hg (bk BK501); have NB505_509 := nl hg (bk BK505); have NB509_505 := ng hg (bk BK505); replace BK500 := bb (bk BK500) hb; replace BK501 := bb (bk BK501) hb; replace BK505 := bb (bk BK505) hb; replace HB := hbb (hs_ HB) hb; clear hb hbox hg; have hnb22 := NB509_500.out; have hnc22 := NB500_509.out; have hnb23 := NB509_501.out; have hnc23 := NB501_509.out; have hnb24 := NB509_505.out; have hnc24 := NB505_509.out; obtain ⟨hcz25_0, hcz25_1, hfz25_0, hfz25_1⟩ := cz2 BK509))
  (try simp only [Act.put, List.setIfInBounds_toArray, List.set_cons_zero, List.set_cons_succ])
  go_cut [44] (fun v44 wc => ∃ (kq : Nat) (x44_5 : Bool), v44 = .bool x44_5 ∧ Aside0 (laws_FnSpotDistFar.j0 kq t504 t508 x44_5 t496 t497 t498 t499 t502 t503 t506 t507 = some r) ∧ Aside0 (kq ≤ k) ∧ Aside0 (wc.heap[gb500]? = some (.cells #[.int .i64 t496, .int .i64 t497] 24 (0, 0))) ∧ Aside0 (wc.heap[gb501]? = some (.cells #[.int .i64 t498, .int .i64 t499] 24 (0, 0))) ∧ Aside0 (wc.heap[gb505]? = some (.cells #[.int .i64 t502, .int .i64 t503] 29 (0, 0))) ∧ Aside0 (wc.heap[gb509]? = some (.cells #[.int .i64 t506, .int .i64 t507] 29 (0, 0))) ∧ Aside0 (Below w.heap.size w wc))
  case first =>
   have H := HC6.out
   clear HC6
   by_cases c26 : (t508 != t504) = true
   ·rw [if_pos c26] at H
    have c26b0 : (t508 != t504) = true := c26
    (try (have c26b1 : decide (t508 = t504) = false := by simpa using c26))
    (try (have c26b2 : (t508 == t504) = false := by simpa using c26))
    (try (have c26b3 : ¬ (t508 = t504) := by simpa using c26))
    clear c26
    (first | rw [c26b0] | (simp only [i64_w, i32_w]; rw [c26b0]) | skip)
    have H' := Aside0.mk H
    clear H
    go_wp2
    go_meet
    case rel => exact ⟨_, (true), (by first | rfl | (simp; done) | (simp [*]; done)), H', ⟨by first | omega | exact Nat.le_refl _⟩, ⟨bk1 BK500 NB500_509⟩, ⟨bk1 BK501 NB501_509⟩, ⟨bk1 BK505 NB505_509⟩, ⟨bkp BK509⟩, ⟨hs_ HB⟩⟩
   ·rw [if_neg c26] at H
    have c26b0 : (t508 != t504) = false := by simpa using c26
    (try (have c26b1 : decide (t508 = t504) = true := by simpa using c26))
    (try (have c26b2 : (t508 == t504) = true := by simpa using c26))
    clear c26
    (first | rw [c26b0] | (simp only [i64_w, i32_w]; rw [c26b0]) | skip)
    by_cases c27 : (!(t506 == t502) || (!(t507 == t503))) = true
    ·rw [if_pos c27] at H
     have c27b0 : (!(t506 == t502) || (!(t507 == t503))) = true := c27
     clear c27
     have H' := Aside0.mk H
     clear H
     have hnb28 := NB509_500.out
     have hnc28 := NB500_509.out
     have hnb29 := NB509_501.out
     have hnc29 := NB501_509.out
     have hnb30 := NB509_505.out
     have hnc30 := NB505_509.out
     obtain ⟨hcz31_0, hcz31_1, hfz31_0, hfz31_1⟩ := cz2 BK509
     have hnb32 := NB505_500.out
     have hnc32 := NB500_505.out
     have hnb33 := NB505_501.out
     have hnc33 := NB501_505.out
     obtain ⟨hcz34_0, hcz34_1, hfz34_0, hfz34_1⟩ := cz2 BK505
     go_wp2
     go_meet
     case rel => exact ⟨_, (true), (by first | rfl | (simp; done) | (simp [*]; done)), H', ⟨by first | omega | exact Nat.le_refl _⟩, ⟨bk1 BK500 NB500_509⟩, ⟨bk1 BK501 NB501_509⟩, ⟨bk1 BK505 NB505_509⟩, ⟨bkp BK509⟩, ⟨hs_ HB⟩⟩
    ·rw [if_neg c27] at H
     have c27b0 : (!(t506 == t502) || (!(t507 == t503))) = false := by simpa using c27
     clear c27
     have H' := Aside0.mk H
     clear H
     have hnb35 := NB509_500.out
     have hnc35 := NB500_509.out
     have hnb36 := NB509_501.out
     have hnc36 := NB501_509.out
     have hnb37 := NB509_505.out
     have hnc37 := NB505_509.out
     obtain ⟨hcz38_0, hcz38_1, hfz38_0, hfz38_1⟩ := cz2 BK509
     have hnb39 := NB505_500.out
     have hnc39 := NB500_505.out
     have hnb40 := NB505_501.out
     have hnc40 := NB501_505.out
     obtain ⟨hcz41_0, hcz41_1, hfz41_0, hfz41_1⟩ := cz2 BK505
     go_wp2
     go_meet
     case rel => exact ⟨_, (!t508), (by first | rfl | (simp; done) | (simp [*]; done)), H', ⟨by first | omega | exact Nat.le_refl _⟩, ⟨bk1 BK500 NB500_509⟩, ⟨bk1 BK501 NB501_509⟩, ⟨bk1 BK505 NB505_509⟩, ⟨bkp BK509⟩, ⟨hs_ HB⟩⟩
  case rest =>
   clear HC6
   try clear c1
   try clear c2
   try clear c2b0
   try clear c2b1
   try clear p2
   try clear c3
   try clear c4
   try clear c10
   try clear c13
   try clear c15
   try clear c16
   try clear c20
   try clear c22
   try clear c23
   try clear c24
   try clear c26
   try clear c26b0
   try clear c26b1
   try clear c26b2
   try clear c27
   try clear c27b0
   try clear c28
   try clear c29
   try clear c30
   try clear c32
   try clear c33
   try clear c35
   try clear c36
   try clear c37
   try clear c39
   try clear c40
   try clear hcz11_0
   try clear hcz11_1
   try clear hcz12_0
   try clear hcz12_1
   try clear hcz17_0
   try clear hcz17_1
   try clear hcz18_0
   try clear hcz18_1
   try clear hcz19_0
   try clear hcz19_1
   try clear hcz25_0
   try clear hcz25_1
   try clear hcz31_0
   try clear hcz31_1
   try clear hcz34_0
   try clear hcz34_1
   try clear hcz38_0
   try clear hcz38_1
   try clear hcz41_0
   try clear hcz41_1
   try clear hfz11_0
   try clear hfz11_1
   try clear hfz12_0
   try clear hfz12_1
   try clear hfz17_0
   try clear hfz17_1
   try clear hfz18_0
   try clear hfz18_1
   try clear hfz19_0
   try clear hfz19_1
   try clear hfz25_0
   try clear hfz25_1
   try clear hfz31_0
   try clear hfz31_1
   try clear hfz34_0
   try clear hfz34_1
   try clear hfz38_0
   try clear hfz38_1
   try clear hfz41_0
   try clear hfz41_1
   obtain ⟨kq, x44_5, rfl, HA, HJ5, BK500, BK501, BK505, BK509, HB⟩ := hcut
   cases kq with
   | zero => exact absurd HA.out (by simp [laws_FnSpotDistFar.j0])
   | succ kj5 =>
    have H := HA.out
    clear HA
    simp only [laws_FnSpotDistFar.j0] at H
    by_cases c42 : x44_5 = true
    ·subst c42
     have H1 : (if (t508 == t504) = true then (some (t506 == t502 && (t507 == t503))) else (some false)) = some r := by rw [if_pos rfl] at H; exact H
     clear H
     have H := H1
     clear H1
     by_cases c43 : (t508 == t504) = true
     ·rw [if_pos c43] at H
      have c43b0 : (t508 == t504) = true := c43
      (try (have c43b1 : decide (t508 = t504) = true := by simpa using c43))
      (try (have c43b2 : (t508 == t504) = true := by simpa using c43))
      clear c43
      obtain rfl := Option.some.inj H
      have hnb44 := NB509_500.out
      have hnc44 := NB500_509.out
      have hnb45 := NB509_501.out
      have hnc45 := NB501_509.out
      have hnb46 := NB509_505.out
      have hnc46 := NB505_509.out
      obtain ⟨hcz47_0, hcz47_1, hfz47_0, hfz47_1⟩ := cz2 BK509
      have hnb48 := NB505_500.out
      have hnc48 := NB500_505.out
      have hnb49 := NB505_501.out
      have hnc49 := NB501_505.out
      obtain ⟨hcz50_0, hcz50_1, hfz50_0, hfz50_1⟩ := cz2 BK505
      go_wp2
      go_ret
      exact ⟨by first | rfl | (simp [errW_none, errW_some] <;> rfl) | (simp [*, errW_none, errW_some] <;> rfl), hs_ HB⟩
     ·rw [if_neg c43] at H
      have c43b0 : (t508 == t504) = false := by simpa using c43
      (try (have c43b1 : decide (t508 = t504) = false := by simpa using c43))
      (try (have c43b2 : (t508 == t504) = false := by simpa using c43))
      (try (have c43b3 : ¬ (t508 = t504) := by simpa using c43))
      clear c43
      obtain rfl := Option.some.inj H
      go_wp2
      go_ret
      exact ⟨by first | rfl | (simp [errW_none, errW_some] <;> rfl) | (simp [*, errW_none, errW_some] <;> rfl), hs_ HB⟩
    ·replace c42 := Bool.eq_false_iff.mpr c42
     subst c42
     have H1 : ((impl_SpotFar.f t498 t499).bind fun bt510 => ((impl_SpotDist.f kj5 t496 t497 bt510.1 bt510.2.1).bind fun bt514 => (if bt514.2.2 = true then (if (wrap64 (t506 + bt514.1)) ≤ 64800000 then (some (decide ((wrap64 (t507 + bt514.2.1)) ≥ 64800000))) else (some false)) else (some false)))) = some r := by rw [if_neg (show ¬ (false = true) by decide)] at H; exact H
     clear H
     have H := H1
     clear H1
     replace H := Option.bind_eq_some_iff.mp H
     obtain ⟨⟨t510, t511, t512⟩, A510, H⟩ := H
     replace H : ((impl_SpotDist.f kj5 t496 t497 t510 t511).bind fun bt514 => (if bt514.2.2 = true then (if (wrap64 (t506 + bt514.1)) ≤ 64800000 then (some (decide ((wrap64 (t507 + bt514.2.1)) ≥ 64800000))) else (some false)) else (some false))) = some r := H
     have A51 := Aside0.mk A510
     clear A510
     replace H := Option.bind_eq_some_iff.mp H
     obtain ⟨⟨t514, t515, t516⟩, A520, H⟩ := H
     replace H : (if t516 = true then (if (wrap64 (t506 + t514)) ≤ 64800000 then (some (decide ((wrap64 (t507 + t515)) ≥ 64800000))) else (some false)) else (some false)) = some r := H
     have A52 := Aside0.mk A520
     clear A520
     by_cases c53 : t516 = true
     ·subst c53
      have H1 : (if (wrap64 (t506 + t514)) ≤ 64800000 then (some (decide ((wrap64 (t507 + t515)) ≥ 64800000))) else (some false)) = some r := by rw [if_pos rfl] at H; exact H
      clear H
      have H := H1
      clear H1
      by_cases c54 : (wrap64 (t506 + t514)) ≤ 64800000
      ·rw [if_pos c54] at H
       have c54b0 : decide ((wrap64 (t506 + t514)) ≤ 64800000) = true := decide_eq_true c54
       clear c54
       obtain rfl := Option.some.inj H
       have hnb55 := NB501_500.out
       have hnc55 := NB500_501.out
       have hnb56 := NB501_505.out
       have hnc56 := NB505_501.out
       have hnb57 := NB501_509.out
       have hnc57 := NB509_501.out
       obtain ⟨hcz58_0, hcz58_1, hfz58_0, hfz58_1⟩ := cz2 BK501
       go_wp2_with (first | ((with_reducible refine gate_callee (f := 19) rfl ?_); refine gL 55 Try.func19 #[.agg #[.int .i64 t498, .int .i64 t499]] ?_; (with_reducible refine (impl_SpotFar.calls t498 t499 t510 t511 t512 _ A51.out).mono ?_); rintro e w59 ⟨rfl, hb⟩; refine ⟨_, rfl, ?_⟩; replace BK500 := bb (bk BK500) hb; replace BK501 := bb (bk BK501) hb; replace BK505 := bb (bk BK505) hb; replace BK509 := bb (bk BK509) hb; replace HB := hbb (hs_ HB) hb; clear hb) | ((with_reducible refine gate_dst (N := 9) rfl ?_); refine bE 9 #[.int .i64 0, .int .i64 0] 24 ?_; intro gb513 hg w60 hbox hb; have BK513 := Aside0.mk (hbox); have GE513 := gw hg (hs_ HB); have GW513 := GE513; have NB500_513 := nl hg (bk BK500); have NB513_500 := ng hg (bk BK500); have NB501_513 := nl hg (bk BK501); have NB513_501 := ng hg (bk BK501); have NB505_513 := nl hg (bk BK505); have NB513_505 := ng hg (bk BK505); have NB509_513 := nl hg (bk BK509); have NB513_509 := ng hg (bk BK509); replace BK500 := bb (bk BK500) hb; replace BK501 := bb (bk BK501) hb; replace BK505 := bb (bk BK505) hb; replace BK509 := bb (bk BK509) hb; replace HB := hbb (hs_ HB) hb; clear hb hbox hg; have hnb61 := NB513_500.out; have hnc61 := NB500_513.out; have hnb62 := NB513_501.out; have hnc62 := NB501_513.out; have hnb63 := NB513_505.out; have hnc63 := NB505_513.out; have hnb64 := NB513_509.out; have hnc64 := NB509_513.out; obtain ⟨hcz65_0, hcz65_1, hfz65_0, hfz65_1⟩ := cz2 BK513; have hnb66 := NB500_505.out; have hnc66 := NB505_500.out; have hnb67 := NB500_509.out; have hnc67 := NB509_500.out; obtain ⟨hcz68_0, hcz68_1, hfz68_0, hfz68_1⟩ := cz2 BK500) | ((with_reducible refine gate_callee (f := 20) rfl ?_); refine gL 61 Try.func20 #[.agg #[.int .i64 t496, .int .i64 t497], .agg #[.int .i64 t510, .int .i64 t511]] ?_; (with_reducible refine (impl_SpotDist.calls kj5 t496 t497 t510 t511 t514 t515 true _ A52.out).mono ?_); rintro e w69 ⟨rfl, hb⟩; refine ⟨_, rfl, ?_⟩; replace BK500 := bb (bk1 BK500 NB500_513) hb; replace BK501 := bb (bk1 BK501 NB501_513) hb; replace BK505 := bb (bk1 BK505 NB505_513) hb; replace BK509 := bb (bk1 BK509 NB509_513) hb; replace BK513 := bb (o := .cells #[.int .i64 t510, .int .i64 t511] 24 (0, 0)) (bkp BK513) hb; replace HB := hbb (hs_ HB) hb; clear hb) | ((with_reducible refine gate_dst (N := 11) rfl ?_); refine bE 11 #[.int .i64 0, .int .i64 0] 29 ?_; intro gb517 hg w70 hbox hb; have BK517 := Aside0.mk (hbox); have GE517 := gw hg (hs_ HB); have GW517 := GE517; have NB500_517 := nl hg (bk BK500); have NB517_500 := ng hg (bk BK500); have NB501_517 := nl hg (bk BK501); have NB517_501 := ng hg (bk BK501); have NB505_517 := nl hg (bk BK505); have NB517_505 := ng hg (bk BK505); have NB509_517 := nl hg (bk BK509); have NB517_509 := ng hg (bk BK509); have NB513_517 := nl hg (bk BK513); have NB517_513 := ng hg (bk BK513); replace BK500 := bb (bk BK500) hb; replace BK501 := bb (bk BK501) hb; replace BK505 := bb (bk BK505) hb; replace BK509 := bb (bk BK509) hb; replace BK513 := bb (bk BK513) hb; replace HB := hbb (hs_ HB) hb; clear hb hbox hg; have hnb71 := NB517_500.out; have hnc71 := NB500_517.out; have hnb72 := NB517_501.out; have hnc72 := NB501_517.out; have hnb73 := NB517_505.out; have hnc73 := NB505_517.out; have hnb74 := NB517_509.out; have hnc74 := NB509_517.out; have hnb75 := NB517_513.out; have hnc75 := NB513_517.out; obtain ⟨hcz76_0, hcz76_1, hfz76_0, hfz76_1⟩ := cz2 BK517; have hnb77 := NB509_505.out; have hnc77 := NB505_509.out; obtain ⟨hcz78_0, hcz78_1, hfz78_0, hfz78_1⟩ := cz2 BK509))
       go_ret
       exact ⟨by first | rfl | (simp [errW_none, errW_some] <;> rfl) | (simp [*, errW_none, errW_some] <;> rfl), hs_ HB⟩
      ·rw [if_neg c54] at H
       have c54b0 : decide ((wrap64 (t506 + t514)) ≤ 64800000) = false := decide_eq_false c54
       clear c54
       obtain rfl := Option.some.inj H
       have hnb79 := NB501_500.out
       have hnc79 := NB500_501.out
       have hnb80 := NB501_505.out
       have hnc80 := NB505_501.out
       have hnb81 := NB501_509.out
       have hnc81 := NB509_501.out
       obtain ⟨hcz82_0, hcz82_1, hfz82_0, hfz82_1⟩ := cz2 BK501
       go_wp2_with (first | ((with_reducible refine gate_callee (f := 19) rfl ?_); refine gL 55 Try.func19 #[.agg #[.int .i64 t498, .int .i64 t499]] ?_; (with_reducible refine (impl_SpotFar.calls t498 t499 t510 t511 t512 _ A51.out).mono ?_); rintro e w83 ⟨rfl, hb⟩; refine ⟨_, rfl, ?_⟩; replace BK500 := bb (bk BK500) hb; replace BK501 := bb (bk BK501) hb; replace BK505 := bb (bk BK505) hb; replace BK509 := bb (bk BK509) hb; replace HB := hbb (hs_ HB) hb; clear hb) | ((with_reducible refine gate_dst (N := 9) rfl ?_); refine bE 9 #[.int .i64 0, .int .i64 0] 24 ?_; intro gb513 hg w84 hbox hb; have BK513 := Aside0.mk (hbox); have GE513 := gw hg (hs_ HB); have GW513 := GE513; have NB500_513 := nl hg (bk BK500); have NB513_500 := ng hg (bk BK500); have NB501_513 := nl hg (bk BK501); have NB513_501 := ng hg (bk BK501); have NB505_513 := nl hg (bk BK505); have NB513_505 := ng hg (bk BK505); have NB509_513 := nl hg (bk BK509); have NB513_509 := ng hg (bk BK509); replace BK500 := bb (bk BK500) hb; replace BK501 := bb (bk BK501) hb; replace BK505 := bb (bk BK505) hb; replace BK509 := bb (bk BK509) hb; replace HB := hbb (hs_ HB) hb; clear hb hbox hg; have hnb85 := NB513_500.out; have hnc85 := NB500_513.out; have hnb86 := NB513_501.out; have hnc86 := NB501_513.out; have hnb87 := NB513_505.out; have hnc87 := NB505_513.out; have hnb88 := NB513_509.out; have hnc88 := NB509_513.out; obtain ⟨hcz89_0, hcz89_1, hfz89_0, hfz89_1⟩ := cz2 BK513; have hnb90 := NB500_505.out; have hnc90 := NB505_500.out; have hnb91 := NB500_509.out; have hnc91 := NB509_500.out; obtain ⟨hcz92_0, hcz92_1, hfz92_0, hfz92_1⟩ := cz2 BK500) | ((with_reducible refine gate_callee (f := 20) rfl ?_); refine gL 61 Try.func20 #[.agg #[.int .i64 t496, .int .i64 t497], .agg #[.int .i64 t510, .int .i64 t511]] ?_; (with_reducible refine (impl_SpotDist.calls kj5 t496 t497 t510 t511 t514 t515 true _ A52.out).mono ?_); rintro e w93 ⟨rfl, hb⟩; refine ⟨_, rfl, ?_⟩; replace BK500 := bb (bk1 BK500 NB500_513) hb; replace BK501 := bb (bk1 BK501 NB501_513) hb; replace BK505 := bb (bk1 BK505 NB505_513) hb; replace BK509 := bb (bk1 BK509 NB509_513) hb; replace BK513 := bb (o := .cells #[.int .i64 t510, .int .i64 t511] 24 (0, 0)) (bkp BK513) hb; replace HB := hbb (hs_ HB) hb; clear hb) | ((with_reducible refine gate_dst (N := 11) rfl ?_); refine bE 11 #[.int .i64 0, .int .i64 0] 29 ?_; intro gb517 hg w94 hbox hb; have BK517 := Aside0.mk (hbox); have GE517 := gw hg (hs_ HB); have GW517 := GE517; have NB500_517 := nl hg (bk BK500); have NB517_500 := ng hg (bk BK500); have NB501_517 := nl hg (bk BK501); have NB517_501 := ng hg (bk BK501); have NB505_517 := nl hg (bk BK505); have NB517_505 := ng hg (bk BK505); have NB509_517 := nl hg (bk BK509); have NB517_509 := ng hg (bk BK509); have NB513_517 := nl hg (bk BK513); have NB517_513 := ng hg (bk BK513); replace BK500 := bb (bk BK500) hb; replace BK501 := bb (bk BK501) hb; replace BK505 := bb (bk BK505) hb; replace BK509 := bb (bk BK509) hb; replace BK513 := bb (bk BK513) hb; replace HB := hbb (hs_ HB) hb; clear hb hbox hg; have hnb95 := NB517_500.out; have hnc95 := NB500_517.out; have hnb96 := NB517_501.out; have hnc96 := NB501_517.out; have hnb97 := NB517_505.out; have hnc97 := NB505_517.out; have hnb98 := NB517_509.out; have hnc98 := NB509_517.out; have hnb99 := NB517_513.out; have hnc99 := NB513_517.out; obtain ⟨hcz100_0, hcz100_1, hfz100_0, hfz100_1⟩ := cz2 BK517; have hnb101 := NB509_505.out; have hnc101 := NB505_509.out; obtain ⟨hcz102_0, hcz102_1, hfz102_0, hfz102_1⟩ := cz2 BK509))
       go_ret
       exact ⟨by first | rfl | (simp [errW_none, errW_some] <;> rfl) | (simp [*, errW_none, errW_some] <;> rfl), hs_ HB⟩
     ·replace c53 := Bool.eq_false_iff.mpr c53
      subst c53
      have H1 : (some false) = some r := by rw [if_neg (show ¬ (false = true) by decide)] at H; exact H
      clear H
      have H := H1
      clear H1
      obtain rfl := Option.some.inj H
      have hnb103 := NB501_500.out
      have hnc103 := NB500_501.out
      have hnb104 := NB501_505.out
      have hnc104 := NB505_501.out
      have hnb105 := NB501_509.out
      have hnc105 := NB509_501.out
      obtain ⟨hcz106_0, hcz106_1, hfz106_0, hfz106_1⟩ := cz2 BK501
      go_wp2_with (first | ((with_reducible refine gate_callee (f := 19) rfl ?_); refine gL 55 Try.func19 #[.agg #[.int .i64 t498, .int .i64 t499]] ?_; (with_reducible refine (impl_SpotFar.calls t498 t499 t510 t511 t512 _ A51.out).mono ?_); rintro e w107 ⟨rfl, hb⟩; refine ⟨_, rfl, ?_⟩; replace BK500 := bb (bk BK500) hb; replace BK501 := bb (bk BK501) hb; replace BK505 := bb (bk BK505) hb; replace BK509 := bb (bk BK509) hb; replace HB := hbb (hs_ HB) hb; clear hb) | ((with_reducible refine gate_dst (N := 9) rfl ?_); refine bE 9 #[.int .i64 0, .int .i64 0] 24 ?_; intro gb513 hg w108 hbox hb; have BK513 := Aside0.mk (hbox); have GE513 := gw hg (hs_ HB); have GW513 := GE513; have NB500_513 := nl hg (bk BK500); have NB513_500 := ng hg (bk BK500); have NB501_513 := nl hg (bk BK501); have NB513_501 := ng hg (bk BK501); have NB505_513 := nl hg (bk BK505); have NB513_505 := ng hg (bk BK505); have NB509_513 := nl hg (bk BK509); have NB513_509 := ng hg (bk BK509); replace BK500 := bb (bk BK500) hb; replace BK501 := bb (bk BK501) hb; replace BK505 := bb (bk BK505) hb; replace BK509 := bb (bk BK509) hb; replace HB := hbb (hs_ HB) hb; clear hb hbox hg; have hnb109 := NB513_500.out; have hnc109 := NB500_513.out; have hnb110 := NB513_501.out; have hnc110 := NB501_513.out; have hnb111 := NB513_505.out; have hnc111 := NB505_513.out; have hnb112 := NB513_509.out; have hnc112 := NB509_513.out; obtain ⟨hcz113_0, hcz113_1, hfz113_0, hfz113_1⟩ := cz2 BK513; have hnb114 := NB500_505.out; have hnc114 := NB505_500.out; have hnb115 := NB500_509.out; have hnc115 := NB509_500.out; obtain ⟨hcz116_0, hcz116_1, hfz116_0, hfz116_1⟩ := cz2 BK500) | ((with_reducible refine gate_callee (f := 20) rfl ?_); refine gL 61 Try.func20 #[.agg #[.int .i64 t496, .int .i64 t497], .agg #[.int .i64 t510, .int .i64 t511]] ?_; (with_reducible refine (impl_SpotDist.calls kj5 t496 t497 t510 t511 t514 t515 false _ A52.out).mono ?_); rintro e w117 ⟨rfl, hb⟩; refine ⟨_, rfl, ?_⟩; replace BK500 := bb (bk1 BK500 NB500_513) hb; replace BK501 := bb (bk1 BK501 NB501_513) hb; replace BK505 := bb (bk1 BK505 NB505_513) hb; replace BK509 := bb (bk1 BK509 NB509_513) hb; replace BK513 := bb (o := .cells #[.int .i64 t510, .int .i64 t511] 24 (0, 0)) (bkp BK513) hb; replace HB := hbb (hs_ HB) hb; clear hb) | ((with_reducible refine gate_dst (N := 11) rfl ?_); refine bE 11 #[.int .i64 0, .int .i64 0] 29 ?_; intro gb517 hg w118 hbox hb; have BK517 := Aside0.mk (hbox); have GE517 := gw hg (hs_ HB); have GW517 := GE517; have NB500_517 := nl hg (bk BK500); have NB517_500 := ng hg (bk BK500); have NB501_517 := nl hg (bk BK501); have NB517_501 := ng hg (bk BK501); have NB505_517 := nl hg (bk BK505); have NB517_505 := ng hg (bk BK505); have NB509_517 := nl hg (bk BK509); have NB517_509 := ng hg (bk BK509); have NB513_517 := nl hg (bk BK513); have NB517_513 := ng hg (bk BK513); replace BK500 := bb (bk BK500) hb; replace BK501 := bb (bk BK501) hb; replace BK505 := bb (bk BK505) hb; replace BK509 := bb (bk BK509) hb; replace BK513 := bb (bk BK513) hb; replace HB := hbb (hs_ HB) hb; clear hb hbox hg; have hnb119 := NB517_500.out; have hnc119 := NB500_517.out; have hnb120 := NB517_501.out; have hnc120 := NB501_517.out; have hnb121 := NB517_505.out; have hnc121 := NB505_517.out; have hnb122 := NB517_509.out; have hnc122 := NB509_517.out; have hnb123 := NB517_513.out; have hnc123 := NB513_517.out; obtain ⟨hcz124_0, hcz124_1, hfz124_0, hfz124_1⟩ := cz2 BK517))
      go_ret
      exact ⟨by first | rfl | (simp [errW_none, errW_some] <;> rfl) | (simp [*, errW_none, errW_some] <;> rfl), hs_ HB⟩


theorem drawSpotDist_tells {l : List Int} (hl : Bytes l) {k : Nat} (hk : 20 ≤ k) : ∃ pu pa qu qa, spec_DrawSpotDist.f k l = some (pu, pa, qu, qa) := by
 unfold spec_DrawSpotDist.f
 obtain ⟨b, h1, h2, h3⟩ := open_tells hl
 rw [h1]; simp only [Option.bind_some]
 obtain ⟨pu, pa, qu, qa, p, q1, q2, q3⟩ := spots_tells h2 h3 (show (0 : Int) ≤ 0 by omega) (by omega) hk
 rw [q1]; simp only [Option.bind_some]
 exact ⟨_, _, _, _, rfl⟩
theorem distR_in {pu pa qu qa : Int} (h : (Up pu ∧ Ar pa) ∧ (Up qu ∧ Ar qa)) : distR pu pa qu qa = ((distOf (squareM pu pa qu qa)).1, (distOf (squareM pu pa qu qa)).2, true) := if_pos h
theorem distR_out {pu pa qu qa : Int} (h : ¬ ((Up pu ∧ Ar pa) ∧ (Up qu ∧ Ar qa))) : distR pu pa qu qa = (0, 0, false) := if_neg h
theorem FnSpotDistFar_pure {l0 : List Int} (hl : Bytes l0) {k : Nat} (hk : 300 ≤ k) : laws_FnSpotDistFar.f (k + 1) l0 = some true := by
 unfold laws_FnSpotDistFar.f
 by_cases h : (l0.length : Int) > 1048576
 ·rw [if_pos h]
 rw [if_neg h]
 obtain ⟨pu, pa, qu, qa, hd⟩ := drawSpotDist_tells hl (k := k + 1) (by omega)
 obtain ⟨i1, i2⟩ := SpotDist_is pu pa qu qa (k := k + 1) (by omega)
 rw [hd]; simp only [Option.bind_some]
 rw [i1, i2]
 by_cases hin : (Up pu ∧ Ar pa) ∧ (Up qu ∧ Ar qa)
 ·rw [distR_in hin]
  simp only [Option.bind_some, bne_self_eq_false, beq_self_eq_true, Bool.not_true, Bool.not_false, Bool.or_false, Bool.or_self, Bool.and_self, Bool.false_eq_true, if_false, if_true]
  rw [laws_FnSpotDistFar.j0]
  simp only [Bool.false_eq_true, if_false]
  have us := (square_parts hin.1.1 hin.2.1 pa qa).2.2
  obtain ⟨d1, d2, d3⟩ := dist_ends us
  have hq' : Up (-qu) := ⟨by have := hin.2.1.2; omega, by have := hin.2.1.1; omega⟩
  have ut := (square_parts hin.1.1 hq' pa (farA qa)).2.2
  obtain ⟨s1, s2⟩ := square_far hin.1.1 hin.2.1 hin.1.2 hin.2.2
  obtain ⟨t1, t2⟩ := dist_far us ut s1 s2
  obtain ⟨f1, f2, f3⟩ := dist_ends ut
  have ef : farR qu qa = (-qu, farA qa, true) := if_pos hin.2
  rw [(SpotFar_is qu qa).1, ef]
  simp only [Option.bind_some]
  rw [(SpotDist_is pu pa (-qu) (farA qa) (by omega)).1, distR_in ⟨hin.1, hq', far_ar qa⟩]
  simp only [Option.bind_some, if_true]
  rw [w64 (by omega) (by omega), w64 (by omega) (by omega), if_pos t1]
  simp [t2]
 ·rw [distR_out hin]
  simp [laws_FnSpotDistFar.j0]
theorem FnSpotDistFar_true (A0 : Option Addr) (c0 : Nat) (l0 : List Int) (w : World) (hr0 : Kd.C (Kd.int .u8) w A0 l0.length l0) (hc0 : l0.length ≤ c0) (hw0 : ∀ x ∈ l0, (Lit.int .u8 x).wf = true) :
  Calls Try.prog 13 #[.slice A0 l0.length c0] w fun e w' => e = .returned (.bool true) ∧ Below w.heap.size w w' :=
 laws_FnSpotDistFar.calls 301 A0 c0 l0 true w hr0 hc0 (FnSpotDistFar_pure (bytes_of hw0) (by omega))

end Go.Proofs.Ytmcippkpgmehdaa.M
