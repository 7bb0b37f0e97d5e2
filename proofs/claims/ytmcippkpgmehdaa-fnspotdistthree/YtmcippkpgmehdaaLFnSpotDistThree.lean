import Derived.Test.YtmcippkpgmehdaaP5
import Derived.Test.YtmcippkpgmehdaaP7
import Derived.Test.YtmcippkpgmehdaaP8
import Derived.Test.YtmcippkpgmehdaaDd
import Derived.Test.YtmcippkpgmehdaaDf
namespace Go.Proofs.Ytmcippkpgmehdaa.M
open Go.RowKit Go.Proofs.YtmcippkpgmehdaaW.PrintWords Go.Proofs.YtmcippkpgmehdaaW.PrintLast Go.Proofs.YtmcippkpgmehdaaW.PrintMore
attribute [local go_sem] max2_int min2_int max_two min_two max_three min_three max_four min_four
attribute [local go_sem high] eqA42 eqA29 eqA24
attribute [local go_sem] fld42_0 fld42_1 fld29_0 fld29_1 fld24_0 fld24_1 fld38_0 fld38_1 fld88_0 fld88_1 fld88_2 fld88_3 fld88_4
set_option linter.unusedVariables false
set_option linter.unusedSimpArgs false
/-! ### laws_FnSpotDistThree: function 11 -/
mutual
def laws_FnSpotDistThree.j0 : Nat → List Int → List Int → Bool → Option (Bool)
 | 0, _, _, _ => none
 | k + 1, x0, x1, x23 => if x23 = true then (some true) else ((spec_DrawSpotDist.f k x0).bind fun bt499 => ((spec_DrawSpotFar.f k x1).bind fun bt505 => ((spec_SpotDist.f k bt499.1 bt499.2.1 bt499.2.2.1 bt499.2.2.2).bind fun bt508 => ((impl_SpotDist.f k bt499.1 bt499.2.1 bt499.2.2.1 bt499.2.2.2).bind fun bt512 => (if (bt512.2.2 != bt508.2.2) = true then (laws_FnSpotDistThree.j1 k bt508.2.2 bt512.2.2 true bt499.1 bt499.2.1 bt499.2.2.1 bt499.2.2.2 bt505.1 bt505.2 bt508.1 bt508.2.1 bt512.1 bt512.2.1) else (if (!(bt512.1 == bt508.1) || (!(bt512.2.1 == bt508.2.1))) = true then (laws_FnSpotDistThree.j1 k bt508.2.2 bt512.2.2 true bt499.1 bt499.2.1 bt499.2.2.1 bt499.2.2.2 bt505.1 bt505.2 bt508.1 bt508.2.1 bt512.1 bt512.2.1) else (if bt512.2.2 = true then ((spec_SpotOk.f bt505.1 bt505.2).bind fun t516 => (laws_FnSpotDistThree.j1 k bt508.2.2 bt512.2.2 (!t516) bt499.1 bt499.2.1 bt499.2.2.1 bt499.2.2.2 bt505.1 bt505.2 bt508.1 bt508.2.1 bt512.1 bt512.2.1)) else (laws_FnSpotDistThree.j1 k bt508.2.2 bt512.2.2 true bt499.1 bt499.2.1 bt499.2.2.1 bt499.2.2.2 bt505.1 bt505.2 bt508.1 bt508.2.1 bt512.1 bt512.2.1))))))))
def laws_FnSpotDistThree.j1 : Nat → Bool → Bool → Bool → Int → Int → Int → Int → Int → Int → Int → Int → Int → Int → Option (Bool)
 | 0, _, _, _, _, _, _, _, _, _, _, _, _, _ => none
 | k + 1, x9, x11, x59, x504000, x504001, x505000, x505001, x508000, x508001, x512000, x512001, x516000, x516001 => if x59 = true then (if (x11 == x9) = true then (some (x516000 == x512000 && (x516001 == x512001))) else (some false)) else ((impl_SpotDist.f k x504000 x504001 x508000 x508001).bind fun bt517 => ((impl_SpotDist.f k x508000 x508001 x505000 x505001).bind fun bt521 => (if bt517.2.2 = true then (if bt521.2.2 = true then (some (decide (x516000 ≤ (wrap64 (bt517.2.1 + bt521.2.1))))) else (some false)) else (some false))))
end
def laws_FnSpotDistThree.f (k : Nat) (l0 : List Int) (l1 : List Int) : Option (Bool) := if (l0.length : Int) > 1048576 then (laws_FnSpotDistThree.j0 k l0 l1 true) else (laws_FnSpotDistThree.j0 k l0 l1 (decide ((l1.length : Int) > 1048576)))
set_option maxHeartbeats 8000000 in
set_option maxRecDepth 100000 in
theorem laws_FnSpotDistThree.calls (k : Nat) (A0 : Option Addr) (c0 : Nat) (l0 : List Int) (A1 : Option Addr) (c1 : Nat) (l1 : List Int) (r : Bool) (w : World) (hr0 : Kd.C (Kd.int .u8) w A0 l0.length l0) (hc0 : l0.length ≤ c0) (hr1 : Kd.C (Kd.int .u8) w A1 l1.length l1) (hc1 : l1.length ≤ c1) (h : laws_FnSpotDistThree.f k l0 l1 = some r) :
  Calls Try.prog 11 #[.slice A0 l0.length c0, .slice A1 l1.length c1] w fun e w' => e = .returned (.bool r) ∧ Below w.heap.size w w' := by
 have hu24 := Try.underlying24
 have hu29 := Try.underlying29
 have HR0 := Aside0.mk hr0
 have HC0 := Aside0.mk hc0
 clear hr0 hc0
 have HR1 := Aside0.mk hr1
 have HC1 := Aside0.mk hc1
 clear hr1 hc1
 have HB := Aside0.mk (Below.refl w.heap.size w)
 have H : (if (l0.length : Int) > 1048576 then (laws_FnSpotDistThree.j0 k l0 l1 true) else (laws_FnSpotDistThree.j0 k l0 l1 (decide ((l1.length : Int) > 1048576)))) = some r := h
 clear h
 have HC3 := Aside0.mk H
 clear H
 go_enter Try.func11, Try.ntmps11
 go_upto_region 1 with (fail)
 go_cut [23] (fun v23 wc => ∃ (kq : Nat) (x23_2 : Bool), v23 = .bool x23_2 ∧ Aside0 (laws_FnSpotDistThree.j0 kq l0 l1 x23_2 = some r) ∧ Aside0 (kq ≤ k) ∧ Aside0 (Below w.heap.size w wc))
 case first =>
  have H := HC3.out
  clear HC3
  by_cases c4 : (l0.length : Int) > 1048576
  ·rw [if_pos c4] at H
   have c4b0 : decide (1048576 < (l0.length : Int)) = true := decide_eq_true c4
   have c4b1 : decide (1048576 < l0.length) = true := decide_eq_true (by omega)
   clear c4
   (first | rw [c4b0] | (simp only [i64_w, i32_w]; rw [c4b0]) | skip)
   have H' := Aside0.mk H
   clear H
   go_wp2
   go_meet
   case rel => exact ⟨_, (true), (by first | rfl | (simp; done) | (simp [*]; done)), H', ⟨by first | omega | exact Nat.le_refl _⟩, ⟨h0_ HB⟩⟩
  ·rw [if_neg c4] at H
   have c4b0 : decide (1048576 < (l0.length : Int)) = false := decide_eq_false c4
   have c4b1 : decide (1048576 < l0.length) = false := decide_eq_false (by omega)
   clear c4
   (first | rw [c4b0] | (simp only [i64_w, i32_w]; rw [c4b0]) | skip)
   have H' := Aside0.mk H
   clear H
   go_wp2
   go_meet
   case rel => exact ⟨_, (decide ((l1.length : Int) > 1048576)), (by first | rfl | (simp; done) | (simp [*]; done)), H', ⟨by first | omega | exact Nat.le_refl _⟩, ⟨h0_ HB⟩⟩
 case rest =>
  clear HC3
  try clear c1
  try clear p2
  try clear c4
  try clear c4b0
  try clear c4b1
  obtain ⟨kq, x23_2, rfl, HA, HJ2, HB⟩ := hcut
  cases kq with
  | zero => exact absurd HA.out (by simp [laws_FnSpotDistThree.j0])
  | succ kj2 =>
   have H := HA.out
   clear HA
   simp only [laws_FnSpotDistThree.j0] at H
   by_cases c5 : x23_2 = true
   ·subst c5
    have H1 : (some true) = some r := by rw [if_pos rfl] at H; exact H
    clear H
    have H := H1
    clear H1
    obtain rfl := Option.some.inj H
    go_wp2
    go_ret
    exact ⟨by first | rfl | (simp [errW_none, errW_some] <;> rfl) | (simp [*, errW_none, errW_some] <;> rfl), h0_ HB⟩
   ·replace c5 := Bool.eq_false_iff.mpr c5
    subst c5
    have H1 : ((spec_DrawSpotDist.f kj2 l0).bind fun bt499 => ((spec_DrawSpotFar.f kj2 l1).bind fun bt505 => ((spec_SpotDist.f kj2 bt499.1 bt499.2.1 bt499.2.2.1 bt499.2.2.2).bind fun bt508 => ((impl_SpotDist.f kj2 bt499.1 bt499.2.1 bt499.2.2.1 bt499.2.2.2).bind fun bt512 => (if (bt512.2.2 != bt508.2.2) = true then (laws_FnSpotDistThree.j1 kj2 bt508.2.2 bt512.2.2 true bt499.1 bt499.2.1 bt499.2.2.1 bt499.2.2.2 bt505.1 bt505.2 bt508.1 bt508.2.1 bt512.1 bt512.2.1) else (if (!(bt512.1 == bt508.1) || (!(bt512.2.1 == bt508.2.1))) = true then (laws_FnSpotDistThree.j1 kj2 bt508.2.2 bt512.2.2 true bt499.1 bt499.2.1 bt499.2.2.1 bt499.2.2.2 bt505.1 bt505.2 bt508.1 bt508.2.1 bt512.1 bt512.2.1) else (if bt512.2.2 = true then ((spec_SpotOk.f bt505.1 bt505.2).bind fun t516 => (laws_FnSpotDistThree.j1 kj2 bt508.2.2 bt512.2.2 (!t516) bt499.1 bt499.2.1 bt499.2.2.1 bt499.2.2.2 bt505.1 bt505.2 bt508.1 bt508.2.1 bt512.1 bt512.2.1)) else (laws_FnSpotDistThree.j1 kj2 bt508.2.2 bt512.2.2 true bt499.1 bt499.2.1 bt499.2.2.1 bt499.2.2.2 bt505.1 bt505.2 bt508.1 bt508.2.1 bt512.1 bt512.2.1)))))))) = some r := by rw [if_neg (show ¬ (false = true) by decide)] at H; exact H
    clear H
    have H := H1
    clear H1
    replace H := Option.bind_eq_some_iff.mp H
    obtain ⟨⟨t499, t500, t501, t502⟩, A60, H⟩ := H
    replace H : ((spec_DrawSpotFar.f kj2 l1).bind fun bt505 => ((spec_SpotDist.f kj2 t499 t500 t501 t502).bind fun bt508 => ((impl_SpotDist.f kj2 t499 t500 t501 t502).bind fun bt512 => (if (bt512.2.2 != bt508.2.2) = true then (laws_FnSpotDistThree.j1 kj2 bt508.2.2 bt512.2.2 true t499 t500 t501 t502 bt505.1 bt505.2 bt508.1 bt508.2.1 bt512.1 bt512.2.1) else (if (!(bt512.1 == bt508.1) || (!(bt512.2.1 == bt508.2.1))) = true then (laws_FnSpotDistThree.j1 kj2 bt508.2.2 bt512.2.2 true t499 t500 t501 t502 bt505.1 bt505.2 bt508.1 bt508.2.1 bt512.1 bt512.2.1) else (if bt512.2.2 = true then ((spec_SpotOk.f bt505.1 bt505.2).bind fun t516 => (laws_FnSpotDistThree.j1 kj2 bt508.2.2 bt512.2.2 (!t516) t499 t500 t501 t502 bt505.1 bt505.2 bt508.1 bt508.2.1 bt512.1 bt512.2.1)) else (laws_FnSpotDistThree.j1 kj2 bt508.2.2 bt512.2.2 true t499 t500 t501 t502 bt505.1 bt505.2 bt508.1 bt508.2.1 bt512.1 bt512.2.1))))))) = some r := H
    have A6 := Aside0.mk A60
    clear A60
    replace H := Option.bind_eq_some_iff.mp H
    obtain ⟨⟨t505, t506⟩, A70, H⟩ := H
    replace H : ((spec_SpotDist.f kj2 t499 t500 t501 t502).bind fun bt508 => ((impl_SpotDist.f kj2 t499 t500 t501 t502).bind fun bt512 => (if (bt512.2.2 != bt508.2.2) = true then (laws_FnSpotDistThree.j1 kj2 bt508.2.2 bt512.2.2 true t499 t500 t501 t502 t505 t506 bt508.1 bt508.2.1 bt512.1 bt512.2.1) else (if (!(bt512.1 == bt508.1) || (!(bt512.2.1 == bt508.2.1))) = true then (laws_FnSpotDistThree.j1 kj2 bt508.2.2 bt512.2.2 true t499 t500 t501 t502 t505 t506 bt508.1 bt508.2.1 bt512.1 bt512.2.1) else (if bt512.2.2 = true then ((spec_SpotOk.f t505 t506).bind fun t516 => (laws_FnSpotDistThree.j1 kj2 bt508.2.2 bt512.2.2 (!t516) t499 t500 t501 t502 t505 t506 bt508.1 bt508.2.1 bt512.1 bt512.2.1)) else (laws_FnSpotDistThree.j1 kj2 bt508.2.2 bt512.2.2 true t499 t500 t501 t502 t505 t506 bt508.1 bt508.2.1 bt512.1 bt512.2.1)))))) = some r := H
    have A7 := Aside0.mk A70
    clear A70
    replace H := Option.bind_eq_some_iff.mp H
    obtain ⟨⟨t508, t509, t510⟩, A80, H⟩ := H
    replace H : ((impl_SpotDist.f kj2 t499 t500 t501 t502).bind fun bt512 => (if (bt512.2.2 != t510) = true then (laws_FnSpotDistThree.j1 kj2 t510 bt512.2.2 true t499 t500 t501 t502 t505 t506 t508 t509 bt512.1 bt512.2.1) else (if (!(bt512.1 == t508) || (!(bt512.2.1 == t509))) = true then (laws_FnSpotDistThree.j1 kj2 t510 bt512.2.2 true t499 t500 t501 t502 t505 t506 t508 t509 bt512.1 bt512.2.1) else (if bt512.2.2 = true then ((spec_SpotOk.f t505 t506).bind fun t516 => (laws_FnSpotDistThree.j1 kj2 t510 bt512.2.2 (!t516) t499 t500 t501 t502 t505 t506 t508 t509 bt512.1 bt512.2.1)) else (laws_FnSpotDistThree.j1 kj2 t510 bt512.2.2 true t499 t500 t501 t502 t505 t506 t508 t509 bt512.1 bt512.2.1))))) = some r := H
    have A8 := Aside0.mk A80
    clear A80
    replace H := Option.bind_eq_some_iff.mp H
    obtain ⟨⟨t512, t513, t514⟩, A90, H⟩ := H
    replace H : (if (t514 != t510) = true then (laws_FnSpotDistThree.j1 kj2 t510 t514 true t499 t500 t501 t502 t505 t506 t508 t509 t512 t513) else (if (!(t512 == t508) || (!(t513 == t509))) = true then (laws_FnSpotDistThree.j1 kj2 t510 t514 true t499 t500 t501 t502 t505 t506 t508 t509 t512 t513) else (if t514 = true then ((spec_SpotOk.f t505 t506).bind fun t516 => (laws_FnSpotDistThree.j1 kj2 t510 t514 (!t516) t499 t500 t501 t502 t505 t506 t508 t509 t512 t513)) else (laws_FnSpotDistThree.j1 kj2 t510 t514 true t499 t500 t501 t502 t505 t506 t508 t509 t512 t513)))) = some r := H
    have A9 := Aside0.mk A90
    clear A90
    have HC10 := Aside0.mk H
    clear H
    go_upto_region 7 with (first | ((with_reducible refine gate_callee (f := 35) rfl ?_); refine gL 26 Try.func35 #[.slice A0 l0.length c0] ?_; (with_reducible refine (spec_DrawSpotDist.calls kj2 _ _ l0 t499 t500 t501 t502 _ ?side1 ?side2 A6.out).mono ?_); (case side1 => repeat (first | exact (Kd.C_below HR0.out HB.out) | (with_reducible refine Kd.C_alloc ?_ _) | (with_reducible refine Kd.C_drewN ?_ _) | (with_reducible refine Kd.C_drew ?_))); (case side2 => exact HC0.out); rintro e w11 ⟨rfl, hb⟩; refine ⟨_, rfl, ?_⟩; replace HB := hbb (h0_ HB) hb; clear hb) | ((with_reducible refine gate_dst (N := 5) rfl ?_); (try (refine gate_guard (by rfl) ?_; dsimp only)); refine bE 5 #[.int .i64 0, .int .i64 0] 24 ?_; intro gb503 hg w12 hbox hb; have BK503 := Aside0.mk (hbox); have GE503 := gw hg (h0_ HB); have GW503 := GE503; replace HB := hbb (h0_ HB) hb; clear hb hbox hg) | ((with_reducible refine gate_dst (N := 6) rfl ?_); (try (refine gate_guard (by rfl) ?_; dsimp only)); refine bE 6 #[.int .i64 0, .int .i64 0] 24 ?_; intro gb504 hg w13 hbox hb; have BK504 := Aside0.mk (hbox); have GE504 := gw hg (hs_ HB); have GW504 := GE504; have NB503_504 := nl hg (bk BK503); have NB504_503 := ng hg (bk BK503); replace BK503 := bb (bk BK503) hb; replace HB := hbb (hs_ HB) hb; clear hb hbox hg; have hnb14 := NB503_504.out; have hnc14 := NB504_503.out; obtain ⟨hcz15_0, hcz15_1, hfz15_0, hfz15_1⟩ := cz2 BK503; obtain ⟨hcz16_0, hcz16_1, hfz16_0, hfz16_1⟩ := cz2 BK504) | ((with_reducible refine gate_callee (f := 17) rfl ?_); refine gL 30 Try.func17 #[.slice A1 l1.length c1] ?_; (with_reducible refine (spec_DrawSpotFar.calls kj2 _ _ l1 t505 t506 _ ?side1 ?side2 A7.out).mono ?_); (case side1 => exact Kd.C_below HR1.out (hs_ HB)); (case side2 => exact HC1.out); rintro e w17 ⟨rfl, hb⟩; refine ⟨_, rfl, ?_⟩; replace BK503 := bb (o := .cells #[.int .i64 t499, .int .i64 t500] 24 (0, 0)) (bkp BK503) hb; replace BK504 := bb (o := .cells #[.int .i64 t501, .int .i64 t502] 24 (0, 0)) (bkp BK504) hb; replace HB := hbb (hs_ HB) hb; clear hb) | ((with_reducible refine gate_dst (N := 7) rfl ?_); (try (refine gate_guard (by rfl) ?_; dsimp only)); refine bE 7 #[.int .i64 0, .int .i64 0] 24 ?_; intro gb507 hg w18 hbox hb; have BK507 := Aside0.mk (hbox); have GE507 := gw hg (hs_ HB); have GW507 := GE507; have NB503_507 := nl hg (bk BK503); have NB507_503 := ng hg (bk BK503); have NB504_507 := nl hg (bk BK504); have NB507_504 := ng hg (bk BK504); replace BK503 := bb (bk BK503) hb; replace BK504 := bb (bk BK504) hb; replace HB := hbb (hs_ HB) hb; clear hb hbox hg; have hnb19 := NB507_503.out; have hnc19 := NB503_507.out; have hnb20 := NB507_504.out; have hnc20 := NB504_507.out; obtain ⟨hcz21_0, hcz21_1, hfz21_0, hfz21_1⟩ := cz2 BK507; obtain ⟨hcz22_0, hcz22_1, hfz22_0, hfz22_1⟩ := cz2 BK503; obtain ⟨hcz23_0, hcz23_1, hfz23_0, hfz23_1⟩ := cz2 BK504) | ((with_reducible refine gate_callee (f := 36) rfl ?_); refine gL 34 Try.func36 #[.agg #[.int .i64 t499, .int .i64 t500], .agg #[.int .i64 t501, .int .i64 t502]] ?_; (with_reducible refine (spec_SpotDist.calls kj2 t499 t500 t501 t502 t508 t509 t510 _ A8.out).mono ?_); rintro e w24 ⟨rfl, hb⟩; refine ⟨_, rfl, ?_⟩; replace BK503 := bb (bk1 BK503 NB503_507) hb; replace BK504 := bb (bk1 BK504 NB504_507) hb; replace BK507 := bb (o := .cells #[.int .i64 t505, .int .i64 t506] 24 (0, 0)) (bkp BK507) hb; replace HB := hbb (hs_ HB) hb; clear hb) | ((with_reducible refine gate_dst (N := 8) rfl ?_); (try (refine gate_guard (by rfl) ?_; dsimp only)); refine bE 8 #[.int .i64 0, .int .i64 0] 29 ?_; intro gb511 hg w25 hbox hb; have BK511 := Aside0.mk (hbox); have GE511 := gw hg (hs_ HB); have GW511 := GE511; have NB503_511 := nl hg (bk BK503); have NB511_503 := ng hg (bk BK503); have NB504_511 := nl hg (bk BK504); have NB511_504 := ng hg (bk BK504); have NB507_511 := nl hg (bk BK507); have NB511_507 := ng hg (bk BK507); replace BK503 := bb (bk BK503) hb; replace BK504 := bb (bk BK504) hb; replace BK507 := bb (bk BK507) hb; replace HB := hbb (hs_ HB) hb; clear hb hbox hg; have hnb26 := NB511_503.out; have hnc26 := NB503_511.out; have hnb27 := NB511_504.out; have hnc27 := NB504_511.out; have hnb28 := NB511_507.out; have hnc28 := NB507_511.out; obtain ⟨hcz29_0, hcz29_1, hfz29_0, hfz29_1⟩ := cz2 BK511; obtain ⟨hcz30_0, hcz30_1, hfz30_0, hfz30_1⟩ := cz2 BK503; obtain ⟨hcz31_0, hcz31_1, hfz31_0, hfz31_1⟩ := cz2 BK504) | ((with_reducible refine gate_callee (f := 20) rfl ?_); refine gL 40 Try.func20 #[.agg #[.int .i64 t499, .int .i64 t500], .agg #[.int .i64 t501, .int .i64 t502]] ?_; (with_reducible refine (impl_SpotDist.calls kj2 t499 t500 t501 t502 t512 t513 t514 _ A9.out).mono ?_); rintro e w32 ⟨rfl, hb⟩; refine ⟨_, rfl, ?_⟩; replace BK503 := bb (bk1 BK503 NB503_511) hb; replace BK504 := bb (bk1 BK504 NB504_511) hb; replace BK507 := bb (bk1 BK507 NB507_511) hb; replace BK511 := bb (o := .cells #[.int .i64 t508, .int .i64 t509] 29 (0, 0)) (bkp BK511) hb; replace HB := hbb (hs_ HB) hb; clear hb) | ((with_reducible refine gate_dst (N := 10) rfl ?_); (try (refine gate_guard (by rfl) ?_; dsimp only)); refine bE 10 #[.int .i64 0, .int .i64 0] 29 ?_; intro gb515 hg w33 hbox hb; have BK515 := Aside0.mk (hbox); have GE515 := gw hg (hs_ HB); have GW515 := GE515; have NB503_515 := nl hg (bk BK503); have NB515_503 := ng hg (bk BK503); have NB504_515 := nl hg (bk BK504); have NB515_504 := ng hg (bk BK504); have NB507_515 := nl hg (bk BK507); have NB515_507 := ng hg (bk BK507); have NB511_515 := nl hg (bk BK511); have NB515_511 := ng hg (bk BK511); replace BK503 := bb (bk BK503) hb; replace BK504 := bb (bk BK504) hb; replace BK507 := bb (bk BK507) hb; replace BK511 := bb (bk BK511) hb; replace HB := hbb (hs_ HB) hb; clear hb hbox hg; have hnb34 := NB515_503.out; have hnc34 := NB503_515.out; have hnb35 := NB515_504.out; have hnc35 := NB504_515.out; have hnb36 := NB515_507.out; have hnc36 := NB507_515.out; have hnb37 := NB515_511.out; have hnc37 := NB511_515.out; obtain ⟨hcz38_0, hcz38_1, hfz38_0, hfz38_1⟩ := cz2 BK515))
    (try simp only [Act.put, List.setIfInBounds_toArray, List.set_cons_zero, List.set_cons_succ])
    go_cut [59] (fun v59 wc => ∃ (kq : Nat) (x59_9 : Bool), v59 = .bool x59_9 ∧ Aside0 (laws_FnSpotDistThree.j1 kq t510 t514 x59_9 t499 t500 t501 t502 t505 t506 t508 t509 t512 t513 = some r) ∧ Aside0 (kq ≤ kj2) ∧ Aside0 (wc.heap[gb503]? = some (.cells #[.int .i64 t499, .int .i64 t500] 24 (0, 0))) ∧ Aside0 (wc.heap[gb504]? = some (.cells #[.int .i64 t501, .int .i64 t502] 24 (0, 0))) ∧ Aside0 (wc.heap[gb507]? = some (.cells #[.int .i64 t505, .int .i64 t506] 24 (0, 0))) ∧ Aside0 (wc.heap[gb511]? = some (.cells #[.int .i64 t508, .int .i64 t509] 29 (0, 0))) ∧ Aside0 (wc.heap[gb515]? = some (.cells #[.int .i64 t512, .int .i64 t513] 29 (0, 0))) ∧ Aside0 (Below w.heap.size w wc))
    case first =>
     have H := HC10.out
     clear HC10
     by_cases c39 : (t514 != t510) = true
     ·rw [if_pos c39] at H
      have c39b0 : (t514 != t510) = true := c39
      (try (have c39b1 : decide (t514 = t510) = false := by simpa using c39))
      (try (have c39b2 : (t514 == t510) = false := by simpa using c39))
      (try (have c39b3 : ¬ (t514 = t510) := by simpa using c39))
      clear c39
      (first | rw [c39b0] | (simp only [i64_w, i32_w]; rw [c39b0]) | skip)
      have H' := Aside0.mk H
      clear H
      go_wp2
      go_meet
      case rel => exact ⟨_, (true), (by first | rfl | (simp; done) | (simp [*]; done)), H', ⟨by have := HJ2.out; first | omega | exact Nat.le_refl _⟩, ⟨bk1 BK503 NB503_515⟩, ⟨bk1 BK504 NB504_515⟩, ⟨bk1 BK507 NB507_515⟩, ⟨bk1 BK511 NB511_515⟩, ⟨bkp BK515⟩, ⟨hs_ HB⟩⟩
     ·rw [if_neg c39] at H
      have c39b0 : (t514 != t510) = false := by simpa using c39
      (try (have c39b1 : decide (t514 = t510) = true := by simpa using c39))
      (try (have c39b2 : (t514 == t510) = true := by simpa using c39))
      clear c39
      (first | rw [c39b0] | (simp only [i64_w, i32_w]; rw [c39b0]) | skip)
      by_cases c40 : (!(t512 == t508) || (!(t513 == t509))) = true
      ·rw [if_pos c40] at H
       have c40b0 : (!(t512 == t508) || (!(t513 == t509))) = true := c40
       clear c40
       have H' := Aside0.mk H
       clear H
       have hnb41 := NB515_503.out
       have hnc41 := NB503_515.out
       have hnb42 := NB515_504.out
       have hnc42 := NB504_515.out
       have hnb43 := NB515_507.out
       have hnc43 := NB507_515.out
       have hnb44 := NB515_511.out
       have hnc44 := NB511_515.out
       obtain ⟨hcz45_0, hcz45_1, hfz45_0, hfz45_1⟩ := cz2 BK515
       have hnb46 := NB511_503.out
       have hnc46 := NB503_511.out
       have hnb47 := NB511_504.out
       have hnc47 := NB504_511.out
       have hnb48 := NB511_507.out
       have hnc48 := NB507_511.out
       obtain ⟨hcz49_0, hcz49_1, hfz49_0, hfz49_1⟩ := cz2 BK511
       go_wp2
       go_meet
       case rel => exact ⟨_, (true), (by first | rfl | (simp; done) | (simp [*]; done)), H', ⟨by have := HJ2.out; first | omega | exact Nat.le_refl _⟩, ⟨bk1 BK503 NB503_515⟩, ⟨bk1 BK504 NB504_515⟩, ⟨bk1 BK507 NB507_515⟩, ⟨bk1 BK511 NB511_515⟩, ⟨bkp BK515⟩, ⟨hs_ HB⟩⟩
      ·rw [if_neg c40] at H
       have c40b0 : (!(t512 == t508) || (!(t513 == t509))) = false := by simpa using c40
       clear c40
       by_cases c50 : t514 = true
       ·subst c50
        have H1 : ((spec_SpotOk.f t505 t506).bind fun t516 => (laws_FnSpotDistThree.j1 kj2 t510 true (!t516) t499 t500 t501 t502 t505 t506 t508 t509 t512 t513)) = some r := by rw [if_pos rfl] at H; exact H
        clear H
        have H := H1
        clear H1
        replace H := Option.bind_eq_some_iff.mp H
        obtain ⟨t516, A510, H⟩ := H
        replace H : (laws_FnSpotDistThree.j1 kj2 t510 true (!t516) t499 t500 t501 t502 t505 t506 t508 t509 t512 t513) = some r := H
        have A51 := Aside0.mk A510
        clear A510
        have H' := Aside0.mk H
        clear H
        have hnb52 := NB515_503.out
        have hnc52 := NB503_515.out
        have hnb53 := NB515_504.out
        have hnc53 := NB504_515.out
        have hnb54 := NB515_507.out
        have hnc54 := NB507_515.out
        have hnb55 := NB515_511.out
        have hnc55 := NB511_515.out
        obtain ⟨hcz56_0, hcz56_1, hfz56_0, hfz56_1⟩ := cz2 BK515
        have hnb57 := NB511_503.out
        have hnc57 := NB503_511.out
        have hnb58 := NB511_504.out
        have hnc58 := NB504_511.out
        have hnb59 := NB511_507.out
        have hnc59 := NB507_511.out
        obtain ⟨hcz60_0, hcz60_1, hfz60_0, hfz60_1⟩ := cz2 BK511
        have hnb61 := NB507_503.out
        have hnc61 := NB503_507.out
        have hnb62 := NB507_504.out
        have hnc62 := NB504_507.out
        obtain ⟨hcz63_0, hcz63_1, hfz63_0, hfz63_1⟩ := cz2 BK507
        go_wp2_with (first | (go_at_call 26; (with_reducible refine (spec_SpotOk.calls t505 t506 t516 _ A51.out).mono ?_); rintro e w64 ⟨rfl, hb⟩; replace BK503 := bb (bk1 BK503 NB503_515) hb; replace BK504 := bb (bk1 BK504 NB504_515) hb; replace BK507 := bb (bk1 BK507 NB507_515) hb; replace BK511 := bb (bk1 BK511 NB511_515) hb; replace BK515 := bb (o := .cells #[.int .i64 t512, .int .i64 t513] 29 (0, 0)) (bkp BK515) hb; replace HB := hbb (hs_ HB) hb; clear hb))
        go_meet
        case rel => exact ⟨_, (!t516), (by first | rfl | (simp; done) | (simp [*]; done)), H', ⟨by have := HJ2.out; first | omega | exact Nat.le_refl _⟩, ⟨bk BK503⟩, ⟨bk BK504⟩, ⟨bk BK507⟩, ⟨bk BK511⟩, ⟨bk BK515⟩, ⟨hs_ HB⟩⟩
       ·replace c50 := Bool.eq_false_iff.mpr c50
        subst c50
        have H1 : (laws_FnSpotDistThree.j1 kj2 t510 false true t499 t500 t501 t502 t505 t506 t508 t509 t512 t513) = some r := by rw [if_neg (show ¬ (false = true) by decide)] at H; exact H
        clear H
        have H := H1
        clear H1
        have H' := Aside0.mk H
        clear H
        have hnb65 := NB515_503.out
        have hnc65 := NB503_515.out
        have hnb66 := NB515_504.out
        have hnc66 := NB504_515.out
        have hnb67 := NB515_507.out
        have hnc67 := NB507_515.out
        have hnb68 := NB515_511.out
        have hnc68 := NB511_515.out
        obtain ⟨hcz69_0, hcz69_1, hfz69_0, hfz69_1⟩ := cz2 BK515
        have hnb70 := NB511_503.out
        have hnc70 := NB503_511.out
        have hnb71 := NB511_504.out
        have hnc71 := NB504_511.out
        have hnb72 := NB511_507.out
        have hnc72 := NB507_511.out
        obtain ⟨hcz73_0, hcz73_1, hfz73_0, hfz73_1⟩ := cz2 BK511
        go_wp2
        go_meet
        case rel => exact ⟨_, (true), (by first | rfl | (simp; done) | (simp [*]; done)), H', ⟨by have := HJ2.out; first | omega | exact Nat.le_refl _⟩, ⟨bk1 BK503 NB503_515⟩, ⟨bk1 BK504 NB504_515⟩, ⟨bk1 BK507 NB507_515⟩, ⟨bk1 BK511 NB511_515⟩, ⟨bkp BK515⟩, ⟨hs_ HB⟩⟩
    case rest =>
     clear HC10
     try clear c1
     try clear c2
     try clear p2
     try clear c3
     try clear c4
     try clear c4b0
     try clear c4b1
     try clear c5
     try clear c6
     try clear c7
     try clear c11
     try clear c14
     try clear c17
     try clear c19
     try clear c20
     try clear c26
     try clear c27
     try clear c28
     try clear c34
     try clear c35
     try clear c36
     try clear c37
     try clear c39
     try clear c39b0
     try clear c39b1
     try clear c39b2
     try clear c40
     try clear c40b0
     try clear c41
     try clear c42
     try clear c43
     try clear c44
     try clear c46
     try clear c47
     try clear c48
     try clear c50
     try clear c52
     try clear c53
     try clear c54
     try clear c55
     try clear c57
     try clear c58
     try clear c59
     try clear c61
     try clear c62
     try clear c65
     try clear c66
     try clear c67
     try clear c68
     try clear c70
     try clear c71
     try clear c72
     try clear hcz15_0
     try clear hcz15_1
     try clear hcz16_0
     try clear hcz16_1
     try clear hcz21_0
     try clear hcz21_1
     try clear hcz22_0
     try clear hcz22_1
     try clear hcz23_0
     try clear hcz23_1
     try clear hcz29_0
     try clear hcz29_1
     try clear hcz30_0
     try clear hcz30_1
     try clear hcz31_0
     try clear hcz31_1
     try clear hcz38_0
     try clear hcz38_1
     try clear hcz45_0
     try clear hcz45_1
     try clear hcz49_0
     try clear hcz49_1
     try clear hcz56_0
     try clear hcz56_1
     try clear hcz60_0
     try clear hcz60_1
     try clear hcz63_0
     try clear hcz63_1
     try clear hcz69_0
     try clear hcz69_1
     try clear hcz73_0
     try clear hcz73_1
     try clear hfz15_0
     try clear hfz15_1
     try clear hfz16_0
     try clear hfz16_1
     try clear hfz21_0
     try clear hfz21_1
     try clear hfz22_0
     try clear hfz22_1
     try clear hfz23_0
     try clear hfz23_1
     try clear hfz29_0
     try clear hfz29_1
     try clear hfz30_0
     try clear hfz30_1
     try clear hfz31_0
     try clear hfz31_1
     try clear hfz38_0
     try clear hfz38_1
     try clear hfz45_0
     try clear hfz45_1
     try clear hfz49_0
     try clear hfz49_1
     try clear hfz56_0
     try clear hfz56_1
     try clear hfz60_0
     try clear hfz60_1
     try clear hfz63_0
     try clear hfz63_1
     try clear hfz69_0
     try clear hfz69_1
     try clear hfz73_0
     try clear hfz73_1
     try clear p2
     obtain ⟨kq, x59_9, rfl, HA, HJ9, BK503, BK504, BK507, BK511, BK515, HB⟩ := hcut
     cases kq with
     | zero => exact absurd HA.out (by simp [laws_FnSpotDistThree.j1])
     | succ kj9 =>
      have H := HA.out
      clear HA
      simp only [laws_FnSpotDistThree.j1] at H
      by_cases c74 : x59_9 = true
      ·subst c74
       have H1 : (if (t514 == t510) = true then (some (t512 == t508 && (t513 == t509))) else (some false)) = some r := by rw [if_pos rfl] at H; exact H
       clear H
       have H := H1
       clear H1
       by_cases c75 : (t514 == t510) = true
       ·rw [if_pos c75] at H
        have c75b0 : (t514 == t510) = true := c75
        (try (have c75b1 : decide (t514 = t510) = true := by simpa using c75))
        (try (have c75b2 : (t514 == t510) = true := by simpa using c75))
        clear c75
        obtain rfl := Option.some.inj H
        have hnb76 := NB515_503.out
        have hnc76 := NB503_515.out
        have hnb77 := NB515_504.out
        have hnc77 := NB504_515.out
        have hnb78 := NB515_507.out
        have hnc78 := NB507_515.out
        have hnb79 := NB515_511.out
        have hnc79 := NB511_515.out
        obtain ⟨hcz80_0, hcz80_1, hfz80_0, hfz80_1⟩ := cz2 BK515
        have hnb81 := NB511_503.out
        have hnc81 := NB503_511.out
        have hnb82 := NB511_504.out
        have hnc82 := NB504_511.out
        have hnb83 := NB511_507.out
        have hnc83 := NB507_511.out
        obtain ⟨hcz84_0, hcz84_1, hfz84_0, hfz84_1⟩ := cz2 BK511
        go_wp2
        go_ret
        exact ⟨by first | rfl | (simp [errW_none, errW_some] <;> rfl) | (simp [*, errW_none, errW_some] <;> rfl), hs_ HB⟩
       ·rw [if_neg c75] at H
        have c75b0 : (t514 == t510) = false := by simpa using c75
        (try (have c75b1 : decide (t514 = t510) = false := by simpa using c75))
        (try (have c75b2 : (t514 == t510) = false := by simpa using c75))
        (try (have c75b3 : ¬ (t514 = t510) := by simpa using c75))
        clear c75
        obtain rfl := Option.some.inj H
        go_wp2
        go_ret
        exact ⟨by first | rfl | (simp [errW_none, errW_some] <;> rfl) | (simp [*, errW_none, errW_some] <;> rfl), hs_ HB⟩
      ·replace c74 := Bool.eq_false_iff.mpr c74
       subst c74
       have H1 : ((impl_SpotDist.f kj9 t499 t500 t505 t506).bind fun bt517 => ((impl_SpotDist.f kj9 t505 t506 t501 t502).bind fun bt521 => (if bt517.2.2 = true then (if bt521.2.2 = true then (some (decide (t512 ≤ (wrap64 (bt517.2.1 + bt521.2.1))))) else (some false)) else (some false)))) = some r := by rw [if_neg (show ¬ (false = true) by decide)] at H; exact H
       clear H
       have H := H1
       clear H1
       replace H := Option.bind_eq_some_iff.mp H
       obtain ⟨⟨t517, t518, t519⟩, A850, H⟩ := H
       replace H : ((impl_SpotDist.f kj9 t505 t506 t501 t502).bind fun bt521 => (if t519 = true then (if bt521.2.2 = true then (some (decide (t512 ≤ (wrap64 (t518 + bt521.2.1))))) else (some false)) else (some false))) = some r := H
       have A85 := Aside0.mk A850
       clear A850
       replace H := Option.bind_eq_some_iff.mp H
       obtain ⟨⟨t521, t522, t523⟩, A860, H⟩ := H
       replace H : (if t519 = true then (if t523 = true then (some (decide (t512 ≤ (wrap64 (t518 + t522))))) else (some false)) else (some false)) = some r := H
       have A86 := Aside0.mk A860
       clear A860
       by_cases c87 : t519 = true
       ·subst c87
        have H1 : (if t523 = true then (some (decide (t512 ≤ (wrap64 (t518 + t522))))) else (some false)) = some r := by rw [if_pos rfl] at H; exact H
        clear H
        have H := H1
        clear H1
        by_cases c88 : t523 = true
        ·subst c88
         have H1 : (some (decide (t512 ≤ (wrap64 (t518 + t522))))) = some r := by rw [if_pos rfl] at H; exact H
         clear H
         have H := H1
         clear H1
         obtain rfl := Option.some.inj H
         have hnb89 := NB503_504.out
         have hnc89 := NB504_503.out
         have hnb90 := NB503_507.out
         have hnc90 := NB507_503.out
         have hnb91 := NB503_511.out
         have hnc91 := NB511_503.out
         have hnb92 := NB503_515.out
         have hnc92 := NB515_503.out
         obtain ⟨hcz93_0, hcz93_1, hfz93_0, hfz93_1⟩ := cz2 BK503
         have hnb94 := NB507_504.out
         have hnc94 := NB504_507.out
         have hnb95 := NB507_511.out
         have hnc95 := NB511_507.out
         have hnb96 := NB507_515.out
         have hnc96 := NB515_507.out
         obtain ⟨hcz97_0, hcz97_1, hfz97_0, hfz97_1⟩ := cz2 BK507
         go_wp2_with (first | ((with_reducible refine gate_callee (f := 20) rfl ?_); refine gL 71 Try.func20 #[.agg #[.int .i64 t499, .int .i64 t500], .agg #[.int .i64 t505, .int .i64 t506]] ?_; (with_reducible refine (impl_SpotDist.calls kj9 t499 t500 t505 t506 t517 t518 true _ A85.out).mono ?_); rintro e w98 ⟨rfl, hb⟩; refine ⟨_, rfl, ?_⟩; replace BK503 := bb (bk BK503) hb; replace BK504 := bb (bk BK504) hb; replace BK507 := bb (bk BK507) hb; replace BK511 := bb (bk BK511) hb; replace BK515 := bb (bk BK515) hb; replace HB := hbb (hs_ HB) hb; clear hb) | ((with_reducible refine gate_dst (N := 12) rfl ?_); (try (refine gate_guard (by rfl) ?_; dsimp only)); refine bE 12 #[.int .i64 0, .int .i64 0] 29 ?_; intro gb520 hg w99 hbox hb; have BK520 := Aside0.mk (hbox); have GE520 := gw hg (hs_ HB); have GW520 := GE520; have NB503_520 := nl hg (bk BK503); have NB520_503 := ng hg (bk BK503); have NB504_520 := nl hg (bk BK504); have NB520_504 := ng hg (bk BK504); have NB507_520 := nl hg (bk BK507); have NB520_507 := ng hg (bk BK507); have NB511_520 := nl hg (bk BK511); have NB520_511 := ng hg (bk BK511); have NB515_520 := nl hg (bk BK515); have NB520_515 := ng hg (bk BK515); replace BK503 := bb (bk BK503) hb; replace BK504 := bb (bk BK504) hb; replace BK507 := bb (bk BK507) hb; replace BK511 := bb (bk BK511) hb; replace BK515 := bb (bk BK515) hb; replace HB := hbb (hs_ HB) hb; clear hb hbox hg; have hnb100 := NB520_503.out; have hnc100 := NB503_520.out; have hnb101 := NB520_504.out; have hnc101 := NB504_520.out; have hnb102 := NB520_507.out; have hnc102 := NB507_520.out; have hnb103 := NB520_511.out; have hnc103 := NB511_520.out; have hnb104 := NB520_515.out; have hnc104 := NB515_520.out; obtain ⟨hcz105_0, hcz105_1, hfz105_0, hfz105_1⟩ := cz2 BK520; obtain ⟨hcz106_0, hcz106_1, hfz106_0, hfz106_1⟩ := cz2 BK507; have hnb107 := NB504_511.out; have hnc107 := NB511_504.out; have hnb108 := NB504_515.out; have hnc108 := NB515_504.out; obtain ⟨hcz109_0, hcz109_1, hfz109_0, hfz109_1⟩ := cz2 BK504) | ((with_reducible refine gate_callee (f := 20) rfl ?_); refine gL 77 Try.func20 #[.agg #[.int .i64 t505, .int .i64 t506], .agg #[.int .i64 t501, .int .i64 t502]] ?_; (with_reducible refine (impl_SpotDist.calls kj9 t505 t506 t501 t502 t521 t522 true _ A86.out).mono ?_); rintro e w110 ⟨rfl, hb⟩; refine ⟨_, rfl, ?_⟩; replace BK503 := bb (bk1 BK503 NB503_520) hb; replace BK504 := bb (bk1 BK504 NB504_520) hb; replace BK507 := bb (bk1 BK507 NB507_520) hb; replace BK511 := bb (bk1 BK511 NB511_520) hb; replace BK515 := bb (bk1 BK515 NB515_520) hb; replace BK520 := bb (o := .cells #[.int .i64 t517, .int .i64 t518] 29 (0, 0)) (bkp BK520) hb; replace HB := hbb (hs_ HB) hb; clear hb) | ((with_reducible refine gate_dst (N := 14) rfl ?_); (try (refine gate_guard (by rfl) ?_; dsimp only)); refine bE 14 #[.int .i64 0, .int .i64 0] 29 ?_; intro gb524 hg w111 hbox hb; have BK524 := Aside0.mk (hbox); have GE524 := gw hg (hs_ HB); have GW524 := GE524; have NB503_524 := nl hg (bk BK503); have NB524_503 := ng hg (bk BK503); have NB504_524 := nl hg (bk BK504); have NB524_504 := ng hg (bk BK504); have NB507_524 := nl hg (bk BK507); have NB524_507 := ng hg (bk BK507); have NB511_524 := nl hg (bk BK511); have NB524_511 := ng hg (bk BK511); have NB515_524 := nl hg (bk BK515); have NB524_515 := ng hg (bk BK515); have NB520_524 := nl hg (bk BK520); have NB524_520 := ng hg (bk BK520); replace BK503 := bb (bk BK503) hb; replace BK504 := bb (bk BK504) hb; replace BK507 := bb (bk BK507) hb; replace BK511 := bb (bk BK511) hb; replace BK515 := bb (bk BK515) hb; replace BK520 := bb (bk BK520) hb; replace HB := hbb (hs_ HB) hb; clear hb hbox hg; have hnb112 := NB524_503.out; have hnc112 := NB503_524.out; have hnb113 := NB524_504.out; have hnc113 := NB504_524.out; have hnb114 := NB524_507.out; have hnc114 := NB507_524.out; have hnb115 := NB524_511.out; have hnc115 := NB511_524.out; have hnb116 := NB524_515.out; have hnc116 := NB515_524.out; have hnb117 := NB524_520.out; have hnc117 := NB520_524.out; obtain ⟨hcz118_0, hcz118_1, hfz118_0, hfz118_1⟩ := cz2 BK524; have hnb119 := NB515_511.out; have hnc119 := NB511_515.out; obtain ⟨hcz120_0, hcz120_1, hfz120_0, hfz120_1⟩ := cz2 BK515; obtain ⟨hcz121_0, hcz121_1, hfz121_0, hfz121_1⟩ := cz2 BK520))
         go_ret
         exact ⟨by first | rfl | (simp [errW_none, errW_some] <;> rfl) | (simp [*, errW_none, errW_some] <;> rfl), hs_ HB⟩
        ·replace c88 := Bool.eq_false_iff.mpr c88
         subst c88
         have H1 : (some false) = some r := by rw [if_neg (show ¬ (false = true) by decide)] at H; exact H
         clear H
         have H := H1
         clear H1
         obtain rfl := Option.some.inj H
         have hnb122 := NB503_504.out
         have hnc122 := NB504_503.out
         have hnb123 := NB503_507.out
         have hnc123 := NB507_503.out
         have hnb124 := NB503_511.out
         have hnc124 := NB511_503.out
         have hnb125 := NB503_515.out
         have hnc125 := NB515_503.out
         obtain ⟨hcz126_0, hcz126_1, hfz126_0, hfz126_1⟩ := cz2 BK503
         have hnb127 := NB507_504.out
         have hnc127 := NB504_507.out
         have hnb128 := NB507_511.out
         have hnc128 := NB511_507.out
         have hnb129 := NB507_515.out
         have hnc129 := NB515_507.out
         obtain ⟨hcz130_0, hcz130_1, hfz130_0, hfz130_1⟩ := cz2 BK507
         go_wp2_with (first | ((with_reducible refine gate_callee (f := 20) rfl ?_); refine gL 71 Try.func20 #[.agg #[.int .i64 t499, .int .i64 t500], .agg #[.int .i64 t505, .int .i64 t506]] ?_; (with_reducible refine (impl_SpotDist.calls kj9 t499 t500 t505 t506 t517 t518 true _ A85.out).mono ?_); rintro e w131 ⟨rfl, hb⟩; refine ⟨_, rfl, ?_⟩; replace BK503 := bb (bk BK503) hb; replace BK504 := bb (bk BK504) hb; replace BK507 := bb (bk BK507) hb; replace BK511 := bb (bk BK511) hb; replace BK515 := bb (bk BK515) hb; replace HB := hbb (hs_ HB) hb; clear hb) | ((with_reducible refine gate_dst (N := 12) rfl ?_); (try (refine gate_guard (by rfl) ?_; dsimp only)); refine bE 12 #[.int .i64 0, .int .i64 0] 29 ?_; intro gb520 hg w132 hbox hb; have BK520 := Aside0.mk (hbox); have GE520 := gw hg (hs_ HB); have GW520 := GE520; have NB503_520 := nl hg (bk BK503); have NB520_503 := ng hg (bk BK503); have NB504_520 := nl hg (bk BK504); have NB520_504 := ng hg (bk BK504); have NB507_520 := nl hg (bk BK507); have NB520_507 := ng hg (bk BK507); have NB511_520 := nl hg (bk BK511); have NB520_511 := ng hg (bk BK511); have NB515_520 := nl hg (bk BK515); have NB520_515 := ng hg (bk BK515); replace BK503 := bb (bk BK503) hb; replace BK504 := bb (bk BK504) hb; replace BK507 := bb (bk BK507) hb; replace BK511 := bb (bk BK511) hb; replace BK515 := bb (bk BK515) hb; replace HB := hbb (hs_ HB) hb; clear hb hbox hg; have hnb133 := NB520_503.out; have hnc133 := NB503_520.out; have hnb134 := NB520_504.out; have hnc134 := NB504_520.out; have hnb135 := NB520_507.out; have hnc135 := NB507_520.out; have hnb136 := NB520_511.out; have hnc136 := NB511_520.out; have hnb137 := NB520_515.out; have hnc137 := NB515_520.out; obtain ⟨hcz138_0, hcz138_1, hfz138_0, hfz138_1⟩ := cz2 BK520; obtain ⟨hcz139_0, hcz139_1, hfz139_0, hfz139_1⟩ := cz2 BK507; have hnb140 := NB504_511.out; have hnc140 := NB511_504.out; have hnb141 := NB504_515.out; have hnc141 := NB515_504.out; obtain ⟨hcz142_0, hcz142_1, hfz142_0, hfz142_1⟩ := cz2 BK504) | ((with_reducible refine gate_callee (f := 20) rfl ?_); refine gL 77 Try.func20 #[.agg #[.int .i64 t505, .int .i64 t506], .agg #[.int .i64 t501, .int .i64 t502]] ?_; (with_reducible refine (impl_SpotDist.calls kj9 t505 t506 t501 t502 t521 t522 false _ A86.out).mono ?_); rintro e w143 ⟨rfl, hb⟩; refine ⟨_, rfl, ?_⟩; replace BK503 := bb (bk1 BK503 NB503_520) hb; replace BK504 := bb (bk1 BK504 NB504_520) hb; replace BK507 := bb (bk1 BK507 NB507_520) hb; replace BK511 := bb (bk1 BK511 NB511_520) hb; replace BK515 := bb (bk1 BK515 NB515_520) hb; replace BK520 := bb (o := .cells #[.int .i64 t517, .int .i64 t518] 29 (0, 0)) (bkp BK520) hb; replace HB := hbb (hs_ HB) hb; clear hb) | ((with_reducible refine gate_dst (N := 14) rfl ?_); (try (refine gate_guard (by rfl) ?_; dsimp only)); refine bE 14 #[.int .i64 0, .int .i64 0] 29 ?_; intro gb524 hg w144 hbox hb; have BK524 := Aside0.mk (hbox); have GE524 := gw hg (hs_ HB); have GW524 := GE524; have NB503_524 := nl hg (bk BK503); have NB524_503 := ng hg (bk BK503); have NB504_524 := nl hg (bk BK504); have NB524_504 := ng hg (bk BK504); have NB507_524 := nl hg (bk BK507); have NB524_507 := ng hg (bk BK507); have NB511_524 := nl hg (bk BK511); have NB524_511 := ng hg (bk BK511); have NB515_524 := nl hg (bk BK515); have NB524_515 := ng hg (bk BK515); have NB520_524 := nl hg (bk BK520); have NB524_520 := ng hg (bk BK520); replace BK503 := bb (bk BK503) hb; replace BK504 := bb (bk BK504) hb; replace BK507 := bb (bk BK507) hb; replace BK511 := bb (bk BK511) hb; replace BK515 := bb (bk BK515) hb; replace BK520 := bb (bk BK520) hb; replace HB := hbb (hs_ HB) hb; clear hb hbox hg; have hnb145 := NB524_503.out; have hnc145 := NB503_524.out; have hnb146 := NB524_504.out; have hnc146 := NB504_524.out; have hnb147 := NB524_507.out; have hnc147 := NB507_524.out; have hnb148 := NB524_511.out; have hnc148 := NB511_524.out; have hnb149 := NB524_515.out; have hnc149 := NB515_524.out; have hnb150 := NB524_520.out; have hnc150 := NB520_524.out; obtain ⟨hcz151_0, hcz151_1, hfz151_0, hfz151_1⟩ := cz2 BK524))
         go_ret
         exact ⟨by first | rfl | (simp [errW_none, errW_some] <;> rfl) | (simp [*, errW_none, errW_some] <;> rfl), hs_ HB⟩
       ·replace c87 := Bool.eq_false_iff.mpr c87
        subst c87
        have H1 : (some false) = some r := by rw [if_neg (show ¬ (false = true) by decide)] at H; exact H
        clear H
        have H := H1
        clear H1
        obtain rfl := Option.some.inj H
        have hnb152 := NB503_504.out
        have hnc152 := NB504_503.out
        have hnb153 := NB503_507.out
        have hnc153 := NB507_503.out
        have hnb154 := NB503_511.out
        have hnc154 := NB511_503.out
        have hnb155 := NB503_515.out
        have hnc155 := NB515_503.out
        obtain ⟨hcz156_0, hcz156_1, hfz156_0, hfz156_1⟩ := cz2 BK503
        have hnb157 := NB507_504.out
        have hnc157 := NB504_507.out
        have hnb158 := NB507_511.out
        have hnc158 := NB511_507.out
        have hnb159 := NB507_515.out
        have hnc159 := NB515_507.out
        obtain ⟨hcz160_0, hcz160_1, hfz160_0, hfz160_1⟩ := cz2 BK507
        go_wp2_with (first | ((with_reducible refine gate_callee (f := 20) rfl ?_); refine gL 71 Try.func20 #[.agg #[.int .i64 t499, .int .i64 t500], .agg #[.int .i64 t505, .int .i64 t506]] ?_; (with_reducible refine (impl_SpotDist.calls kj9 t499 t500 t505 t506 t517 t518 false _ A85.out).mono ?_); rintro e w161 ⟨rfl, hb⟩; refine ⟨_, rfl, ?_⟩; replace BK503 := bb (bk BK503) hb; replace BK504 := bb (bk BK504) hb; replace BK507 := bb (bk BK507) hb; replace BK511 := bb (bk BK511) hb; replace BK515 := bb (bk BK515) hb; replace HB := hbb (hs_ HB) hb; clear hb) | ((with_reducible refine gate_dst (N := 12) rfl ?_); (try (refine gate_guard (by rfl) ?_; dsimp only)); refine bE 12 #[.int .i64 0, .int .i64 0] 29 ?_; intro gb520 hg w162 hbox hb; have BK520 := Aside0.mk (hbox); have GE520 := gw hg (hs_ HB); have GW520 := GE520; have NB503_520 := nl hg (bk BK503); have NB520_503 := ng hg (bk BK503); have NB504_520 := nl hg (bk BK504); have NB520_504 := ng hg (bk BK504); have NB507_520 := nl hg (bk BK507); have NB520_507 := ng hg (bk BK507); have NB511_520 := nl hg (bk BK511); have NB520_511 := ng hg (bk BK511); have NB515_520 := nl hg (bk BK515); have NB520_515 := ng hg (bk BK515); replace BK503 := bb (bk BK503) hb; replace BK504 := bb (bk BK504) hb; replace BK507 := bb (bk BK507) hb; replace BK511 := bb (bk BK511) hb; replace BK515 := bb (bk BK515) hb; replace HB := hbb (hs_ HB) hb; clear hb hbox hg; have hnb163 := NB520_503.out; have hnc163 := NB503_520.out; have hnb164 := NB520_504.out; have hnc164 := NB504_520.out; have hnb165 := NB520_507.out; have hnc165 := NB507_520.out; have hnb166 := NB520_511.out; have hnc166 := NB511_520.out; have hnb167 := NB520_515.out; have hnc167 := NB515_520.out; obtain ⟨hcz168_0, hcz168_1, hfz168_0, hfz168_1⟩ := cz2 BK520; obtain ⟨hcz169_0, hcz169_1, hfz169_0, hfz169_1⟩ := cz2 BK507; have hnb170 := NB504_511.out; have hnc170 := NB511_504.out; have hnb171 := NB504_515.out; have hnc171 := NB515_504.out; obtain ⟨hcz172_0, hcz172_1, hfz172_0, hfz172_1⟩ := cz2 BK504) | ((with_reducible refine gate_callee (f := 20) rfl ?_); refine gL 77 Try.func20 #[.agg #[.int .i64 t505, .int .i64 t506], .agg #[.int .i64 t501, .int .i64 t502]] ?_; (with_reducible refine (impl_SpotDist.calls kj9 t505 t506 t501 t502 t521 t522 t523 _ A86.out).mono ?_); rintro e w173 ⟨rfl, hb⟩; refine ⟨_, rfl, ?_⟩; replace BK503 := bb (bk1 BK503 NB503_520) hb; replace BK504 := bb (bk1 BK504 NB504_520) hb; replace BK507 := bb (bk1 BK507 NB507_520) hb; replace BK511 := bb (bk1 BK511 NB511_520) hb; replace BK515 := bb (bk1 BK515 NB515_520) hb; replace BK520 := bb (o := .cells #[.int .i64 t517, .int .i64 t518] 29 (0, 0)) (bkp BK520) hb; replace HB := hbb (hs_ HB) hb; clear hb) | ((with_reducible refine gate_dst (N := 14) rfl ?_); (try (refine gate_guard (by rfl) ?_; dsimp only)); refine bE 14 #[.int .i64 0, .int .i64 0] 29 ?_; intro gb524 hg w174 hbox hb; have BK524 := Aside0.mk (hbox); have GE524 := gw hg (hs_ HB); have GW524 := GE524; have NB503_524 := nl hg (bk BK503); have NB524_503 := ng hg (bk BK503); have NB504_524 := nl hg (bk BK504); have NB524_504 := ng hg (bk BK504); have NB507_524 := nl hg (bk BK507); have NB524_507 := ng hg (bk BK507); have NB511_524 := nl hg (bk BK511); have NB524_511 := ng hg (bk BK511); have NB515_524 := nl hg (bk BK515); have NB524_515 := ng hg (bk BK515); have NB520_524 := nl hg (bk BK520); have NB524_520 := ng hg (bk BK520); replace BK503 := bb (bk BK503) hb; replace BK504 := bb (bk BK504) hb; replace BK507 := bb (bk BK507) hb; replace BK511 := bb (bk BK511) hb; replace BK515 := bb (bk BK515) hb; replace BK520 := bb (bk BK520) hb; replace HB := hbb (hs_ HB) hb; clear hb hbox hg; have hnb175 := NB524_503.out; have hnc175 := NB503_524.out; have hnb176 := NB524_504.out; have hnc176 := NB504_524.out; have hnb177 := NB524_507.out; have hnc177 := NB507_524.out; have hnb178 := NB524_511.out; have hnc178 := NB511_524.out; have hnb179 := NB524_515.out; have hnc179 := NB515_524.out; have hnb180 := NB524_520.out; have hnc180 := NB520_524.out; obtain ⟨hcz181_0, hcz181_1, hfz181_0, hfz181_1⟩ := cz2 BK524))
        go_ret
        exact ⟨by first | rfl | (simp [errW_none, errW_some] <;> rfl) | (simp [*, errW_none, errW_some] <;> rfl), hs_ HB⟩


theorem drawSpotDist_tells {l : List Int} (hl : Bytes l) {k : Nat} (hk : 20 ≤ k) : ∃ pu pa qu qa, spec_DrawSpotDist.f k l = some (pu, pa, qu, qa) := by
 unfold spec_DrawSpotDist.f
 obtain ⟨b, h1, h2, h3⟩ := open_tells hl
 rw [h1]; simp only [Option.bind_some]
 obtain ⟨pu, pa, qu, qa, p, q1, q2, q3⟩ := spots_tells h2 h3 (show (0 : Int) ≤ 0 by omega) (by omega) hk
 rw [q1]; simp only [Option.bind_some]
 exact ⟨_, _, _, _, rfl⟩
theorem drawSpotFar_tells {l : List Int} (hl : Bytes l) {k : Nat} (hk : 20 ≤ k) : ∃ u a, spec_DrawSpotFar.f k l = some (u, a) := by
 unfold spec_DrawSpotFar.f
 obtain ⟨b, h1, h2, h3⟩ := open_tells hl
 rw [h1]; simp only [Option.bind_some]
 obtain ⟨u, a, p, q1, q2, q3⟩ := spot_tells h2 h3 (show (0 : Int) ≤ 0 by omega) (by omega) hk
 rw [q1]; simp only [Option.bind_some]
 exact ⟨_, _, rfl⟩
theorem distR_in {pu pa qu qa : Int} (h : (Up pu ∧ Ar pa) ∧ (Up qu ∧ Ar qa)) : distR pu pa qu qa = ((distOf (squareM pu pa qu qa)).1, (distOf (squareM pu pa qu qa)).2, true) := if_pos h
theorem distR_out {pu pa qu qa : Int} (h : ¬ ((Up pu ∧ Ar pa) ∧ (Up qu ∧ Ar qa))) : distR pu pa qu qa = (0, 0, false) := if_neg h
theorem FnSpotDistThree_pure {l0 l1 : List Int} (hl : Bytes l0) (hm : Bytes l1) {k : Nat} (hk : 300 ≤ k) : laws_FnSpotDistThree.f (k + 1 + 1) l0 l1 = some true := by
 unfold laws_FnSpotDistThree.f
 by_cases h : (l0.length : Int) > 1048576
 ·rw [if_pos h, laws_FnSpotDistThree.j0, if_pos rfl]
 rw [if_neg h]
 by_cases h2 : (l1.length : Int) > 1048576
 ·rw [decide_eq_true h2, laws_FnSpotDistThree.j0, if_pos rfl]
 rw [decide_eq_false h2, laws_FnSpotDistThree.j0]
 simp only [Bool.false_eq_true, if_false]
 obtain ⟨pu, pa, qu, qa, hd⟩ := drawSpotDist_tells hl (k := k + 1) (by omega)
 obtain ⟨ru, ra, he⟩ := drawSpotFar_tells hm (k := k + 1) (by omega)
 obtain ⟨i1, i2⟩ := SpotDist_is pu pa qu qa (k := k + 1) (by omega)
 rw [hd, he]; simp only [Option.bind_some]
 rw [i1, i2]
 by_cases hin : (Up pu ∧ Ar pa) ∧ (Up qu ∧ Ar qa)
 ·rw [distR_in hin, (SpotOk_is ru ra).2]
  simp only [Option.bind_some, bne_self_eq_false, beq_self_eq_true, Bool.not_true, Bool.not_false, Bool.or_false, Bool.or_self, Bool.and_self, Bool.false_eq_true, if_false, if_true]
  rw [laws_FnSpotDistThree.j1]
  by_cases hr : Up ru ∧ Ar ra
  ·rw [(SpotDist_is pu pa ru ra (by omega)).1, (SpotDist_is ru ra qu qa (by omega)).1, distR_in ⟨hin.1, hr⟩, distR_in ⟨hr, hin.2⟩]
   have t := dist_three hin.1.1 hin.2.1 hr.1 hin.1.2 hin.2.2 hr.2
   have a := dist_ends (square_parts hin.1.1 hr.1 pa ra).2.2
   have b := dist_ends (square_parts hr.1 hin.2.1 ra qa).2.2
   simp only [hr, and_self, decide_true, Bool.not_true, Bool.false_eq_true, if_false, Option.bind_some, if_true]
   rw [w64 (by omega) (by omega)]
   simp [t]
  ·simp [hr]
 ·rw [distR_out hin]
  simp [laws_FnSpotDistThree.j1]
theorem FnSpotDistThree_true (A0 : Option Addr) (c0 : Nat) (l0 : List Int) (A1 : Option Addr) (c1 : Nat) (l1 : List Int) (w : World) (hr0 : Kd.C (Kd.int .u8) w A0 l0.length l0) (hc0 : l0.length ≤ c0) (hw0 : ∀ x ∈ l0, (Lit.int .u8 x).wf = true) (hr1 : Kd.C (Kd.int .u8) w A1 l1.length l1) (hc1 : l1.length ≤ c1) (hw1 : ∀ x ∈ l1, (Lit.int .u8 x).wf = true) :
  Calls Try.prog 11 #[.slice A0 l0.length c0, .slice A1 l1.length c1] w fun e w' => e = .returned (.bool true) ∧ Below w.heap.size w w' :=
 laws_FnSpotDistThree.calls 302 A0 c0 l0 A1 c1 l1 true w hr0 hc0 hr1 hc1 (FnSpotDistThree_pure (bytes_of hw0) (bytes_of hw1) (by omega))

end Go.Proofs.Ytmcippkpgmehdaa.M
