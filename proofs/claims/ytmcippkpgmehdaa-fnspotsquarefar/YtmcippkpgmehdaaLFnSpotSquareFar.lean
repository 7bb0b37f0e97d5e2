import Derived.Test.YtmcippkpgmehdaaP5
import Derived.Test.YtmcippkpgmehdaaP6
import Derived.Test.YtmcippkpgmehdaaP8
import Derived.Test.YtmcippkpgmehdaaDg
namespace Go.Proofs.Ytmcippkpgmehdaa.M
open Go.RowKit Go.Proofs.YtmcippkpgmehdaaW.PrintWords Go.Proofs.YtmcippkpgmehdaaW.PrintLast Go.Proofs.YtmcippkpgmehdaaW.PrintMore
attribute [local go_sem] max2_int min2_int max_two min_two max_three min_three max_four min_four
attribute [local go_sem high] eqA42 eqA29 eqA24
attribute [local go_sem] fld42_0 fld42_1 fld29_0 fld29_1 fld24_0 fld24_1 fld38_0 fld38_1 fld88_0 fld88_1 fld88_2 fld88_3 fld88_4
set_option linter.unusedVariables false
set_option linter.unusedSimpArgs false
/-! ### laws_FnSpotSquareFar: function 7 -/
def laws_FnSpotSquareFar.j0 : Nat → Bool → Bool → Bool → Int → Int → Int → Int → Int → Int → Int → Int → Option (Bool)
 | 0, _, _, _, _, _, _, _, _, _, _, _ => none
 | k + 1, x6, x8, x44, x427000, x427001, x428000, x428001, x432000, x432001, x436000, x436001 => if x44 = true then (if (x8 == x6) = true then (some (x436000 == x432000 && (x436001 == x432001))) else (some false)) else ((impl_SpotFar.f x428000 x428001).bind fun bt436 => ((impl_SpotSquare.f k x427000 x427001 bt436.1 bt436.2.1).bind fun bt440 => (if bt440.2.2 = true then (if (wrap64 (x436000 + bt440.1)) ≤ 1000000000 then (some (decide ((wrap64 (x436001 + bt440.2.1)) ≥ 1000000000))) else (some false)) else (some false))))
def laws_FnSpotSquareFar.f (k : Nat) (l0 : List Int) : Option (Bool) := if (l0.length : Int) > 1048576 then (some true) else ((spec_DrawSpotSquare.f k l0).bind fun bt422 => ((spec_SpotSquare.f k bt422.1 bt422.2.1 bt422.2.2.1 bt422.2.2.2).bind fun bt428 => ((impl_SpotSquare.f k bt422.1 bt422.2.1 bt422.2.2.1 bt422.2.2.2).bind fun bt432 => (if (bt432.2.2 != bt428.2.2) = true then (laws_FnSpotSquareFar.j0 k bt428.2.2 bt432.2.2 true bt422.1 bt422.2.1 bt422.2.2.1 bt422.2.2.2 bt428.1 bt428.2.1 bt432.1 bt432.2.1) else (if (!(bt432.1 == bt428.1) || (!(bt432.2.1 == bt428.2.1))) = true then (laws_FnSpotSquareFar.j0 k bt428.2.2 bt432.2.2 true bt422.1 bt422.2.1 bt422.2.2.1 bt422.2.2.2 bt428.1 bt428.2.1 bt432.1 bt432.2.1) else (laws_FnSpotSquareFar.j0 k bt428.2.2 bt432.2.2 (!bt432.2.2) bt422.1 bt422.2.1 bt422.2.2.1 bt422.2.2.2 bt428.1 bt428.2.1 bt432.1 bt432.2.1))))))
theorem laws_FnSpotSquareFar.mono_l : ∀ k, (∀ y0 y1 y2 y3 y4 y5 y6 y7 y8 y9 y10, LeO (laws_FnSpotSquareFar.j0 k y0 y1 y2 y3 y4 y5 y6 y7 y8 y9 y10) (laws_FnSpotSquareFar.j0 (k + 1) y0 y1 y2 y3 y4 y5 y6 y7 y8 y9 y10))
 | 0 => fun _ _ _ _ _ _ _ _ _ _ _ r h => by simp [laws_FnSpotSquareFar.j0] at h
 | k + 1 => by
  have ih0 := laws_FnSpotSquareFar.mono_l k
  ·intro y0 y1 y2 y3 y4 y5 y6 y7 y8 y9 y10
   unfold laws_FnSpotSquareFar.j0
   repeat' first
   | (with_reducible exact ih0 _ _ _ _ _ _ _ _ _ _ _)
   | (with_reducible exact impl_SpotSquare.mono _ _ _ _ _)
   | (with_reducible exact spec_DrawSpotSquare.mono _ _)
   | (with_reducible exact spec_SpotSquare.mono _ _ _ _ _)
   | (with_reducible exact LeO.refl _)
   | (with_reducible exact LeO.none _)
   | (with_reducible refine LeO.ite ?_ ?_)
   | (with_reducible refine LeO.bind ?_ (fun _ => ?_))
   | exact ih0 _ _ _ _ _ _ _ _ _ _ _
   | exact impl_SpotSquare.mono _ _ _ _ _
   | exact spec_DrawSpotSquare.mono _ _
   | exact spec_SpotSquare.mono _ _ _ _ _
   | exact LeO.none _
   | refine LeO.ite ?_ ?_
   | refine LeO.bind ?_ (fun _ => ?_)
theorem laws_FnSpotSquareFar.mono : ∀ a0 k, LeO (laws_FnSpotSquareFar.f k a0) (laws_FnSpotSquareFar.f (k + 1) a0) := by
 intro a0 k
 have ih0 := laws_FnSpotSquareFar.mono_l k
 unfold laws_FnSpotSquareFar.f
 repeat' first
   | (with_reducible exact ih0 _ _ _ _ _ _ _ _ _ _ _)
   | (with_reducible exact impl_SpotSquare.mono _ _ _ _ _)
   | (with_reducible exact spec_DrawSpotSquare.mono _ _)
   | (with_reducible exact spec_SpotSquare.mono _ _ _ _ _)
   | (with_reducible exact LeO.refl _)
   | (with_reducible exact LeO.none _)
   | (with_reducible refine LeO.ite ?_ ?_)
   | (with_reducible refine LeO.bind ?_ (fun _ => ?_))
   | exact ih0 _ _ _ _ _ _ _ _ _ _ _
   | exact impl_SpotSquare.mono _ _ _ _ _
   | exact spec_DrawSpotSquare.mono _ _
   | exact spec_SpotSquare.mono _ _ _ _ _
   | exact LeO.none _
   | refine LeO.ite ?_ ?_
   | refine LeO.bind ?_ (fun _ => ?_)
set_option maxHeartbeats 8000000 in
set_option maxRecDepth 100000 in
theorem laws_FnSpotSquareFar.calls (k : Nat) (A0 : Option Addr) (c0 : Nat) (l0 : List Int) (r : Bool) (w : World) (hr0 : Kd.C (Kd.int .u8) w A0 l0.length l0) (hc0 : l0.length ≤ c0) (h : laws_FnSpotSquareFar.f k l0 = some r) :
  Calls Try.prog 7 #[.slice A0 l0.length c0] w fun e w' => e = .returned (.bool r) ∧ Below w.heap.size w w' := by
 have hu24 := Try.underlying24
 have hu42 := Try.underlying42
 have HR0 := Aside0.mk hr0
 have HC0 := Aside0.mk hc0
 clear hr0 hc0
 have HB := Aside0.mk (Below.refl w.heap.size w)
 have H : (if (l0.length : Int) > 1048576 then (some true) else ((spec_DrawSpotSquare.f k l0).bind fun bt422 => ((spec_SpotSquare.f k bt422.1 bt422.2.1 bt422.2.2.1 bt422.2.2.2).bind fun bt428 => ((impl_SpotSquare.f k bt422.1 bt422.2.1 bt422.2.2.1 bt422.2.2.2).bind fun bt432 => (if (bt432.2.2 != bt428.2.2) = true then (laws_FnSpotSquareFar.j0 k bt428.2.2 bt432.2.2 true bt422.1 bt422.2.1 bt422.2.2.1 bt422.2.2.2 bt428.1 bt428.2.1 bt432.1 bt432.2.1) else (if (!(bt432.1 == bt428.1) || (!(bt432.2.1 == bt428.2.1))) = true then (laws_FnSpotSquareFar.j0 k bt428.2.2 bt432.2.2 true bt422.1 bt422.2.1 bt422.2.2.1 bt422.2.2.2 bt428.1 bt428.2.1 bt432.1 bt432.2.1) else (laws_FnSpotSquareFar.j0 k bt428.2.2 bt432.2.2 (!bt432.2.2) bt422.1 bt422.2.1 bt422.2.2.1 bt422.2.2.2 bt428.1 bt428.2.1 bt432.1 bt432.2.1))))))) = some r := h
 clear h
 by_cases c2 : (l0.length : Int) > 1048576
 ·rw [if_pos c2] at H
  have c2b0 : decide (1048576 < (l0.length : Int)) = true := decide_eq_true c2
  have c2b1 : decide (1048576 < l0.length) = true := decide_eq_true (by omega)
  clear c2
  obtain rfl := Option.some.inj H
  go_enter Try.func7, Try.ntmps7
  go_wp2
  go_ret
  exact ⟨by first | rfl | (simp [errW_none, errW_some] <;> rfl) | (simp [*, errW_none, errW_some] <;> rfl), h0_ HB⟩
 ·rw [if_neg c2] at H
  have c2b0 : decide (1048576 < (l0.length : Int)) = false := decide_eq_false c2
  have c2b1 : decide (1048576 < l0.length) = false := decide_eq_false (by omega)
  clear c2
  replace H := Option.bind_eq_some_iff.mp H
  obtain ⟨⟨t422, t423, t424, t425⟩, A30, H⟩ := H
  replace H : ((spec_SpotSquare.f k t422 t423 t424 t425).bind fun bt428 => ((impl_SpotSquare.f k t422 t423 t424 t425).bind fun bt432 => (if (bt432.2.2 != bt428.2.2) = true then (laws_FnSpotSquareFar.j0 k bt428.2.2 bt432.2.2 true t422 t423 t424 t425 bt428.1 bt428.2.1 bt432.1 bt432.2.1) else (if (!(bt432.1 == bt428.1) || (!(bt432.2.1 == bt428.2.1))) = true then (laws_FnSpotSquareFar.j0 k bt428.2.2 bt432.2.2 true t422 t423 t424 t425 bt428.1 bt428.2.1 bt432.1 bt432.2.1) else (laws_FnSpotSquareFar.j0 k bt428.2.2 bt432.2.2 (!bt432.2.2) t422 t423 t424 t425 bt428.1 bt428.2.1 bt432.1 bt432.2.1))))) = some r := H
  have A3 := Aside0.mk A30
  clear A30
  replace H := Option.bind_eq_some_iff.mp H
  obtain ⟨⟨t428, t429, t430⟩, A40, H⟩ := H
  replace H : ((impl_SpotSquare.f k t422 t423 t424 t425).bind fun bt432 => (if (bt432.2.2 != t430) = true then (laws_FnSpotSquareFar.j0 k t430 bt432.2.2 true t422 t423 t424 t425 t428 t429 bt432.1 bt432.2.1) else (if (!(bt432.1 == t428) || (!(bt432.2.1 == t429))) = true then (laws_FnSpotSquareFar.j0 k t430 bt432.2.2 true t422 t423 t424 t425 t428 t429 bt432.1 bt432.2.1) else (laws_FnSpotSquareFar.j0 k t430 bt432.2.2 (!bt432.2.2) t422 t423 t424 t425 t428 t429 bt432.1 bt432.2.1)))) = some r := H
  have A4 := Aside0.mk A40
  clear A40
  replace H := Option.bind_eq_some_iff.mp H
  obtain ⟨⟨t432, t433, t434⟩, A50, H⟩ := H
  replace H : (if (t434 != t430) = true then (laws_FnSpotSquareFar.j0 k t430 t434 true t422 t423 t424 t425 t428 t429 t432 t433) else (if (!(t432 == t428) || (!(t433 == t429))) = true then (laws_FnSpotSquareFar.j0 k t430 t434 true t422 t423 t424 t425 t428 t429 t432 t433) else (laws_FnSpotSquareFar.j0 k t430 t434 (!t434) t422 t423 t424 t425 t428 t429 t432 t433))) = some r := H
  have A5 := Aside0.mk A50
  clear A50
  have HC6 := Aside0.mk H
  clear H
  go_enter Try.func7, Try.ntmps7
  go_upto_region 6 with (first | ((with_reducible refine gate_callee (f := 30) rfl ?_); refine gL 18 Try.func30 #[.slice A0 l0.length c0] ?_; (with_reducible refine (spec_DrawSpotSquare.calls k _ _ l0 t422 t423 t424 t425 _ ?side1 ?side2 A3.out).mono ?_); (case side1 => repeat (first | exact HR0.out | (with_reducible refine Kd.C_alloc ?_ _) | (with_reducible refine Kd.C_drewN ?_ _) | (with_reducible refine Kd.C_drew ?_))); (case side2 => exact HC0.out); rintro e w7 ⟨rfl, hb⟩; refine ⟨_, rfl, ?_⟩; replace HB := hbb (h0_ HB) hb; clear hb) | ((with_reducible refine gate_dst (N := 3) rfl ?_); refine bE 3 #[.int .i64 0, .int .i64 0] 24 ?_; intro gb426 hg w8 hbox hb; have BK426 := Aside0.mk (hbox); have GE426 := gw hg (h0_ HB); have GW426 := GE426; replace HB := hbb (h0_ HB) hb; clear hb hbox hg) | ((with_reducible refine gate_dst (N := 4) rfl ?_); refine bE 4 #[.int .i64 0, .int .i64 0] 24 ?_; intro gb427 hg w9 hbox hb; have BK427 := Aside0.mk (hbox); have GE427 := gw hg (hs_ HB); have GW427 := GE427; have NB426_427 := nl hg (bk BK426); have NB427_426 := ng hg (bk BK426); replace BK426 := bb (bk BK426) hb; replace HB := hbb (hs_ HB) hb; clear hb hbox hg; have hnb10 := NB426_427.out; have hnc10 := NB427_426.out; obtain ⟨hcz11_0, hcz11_1, hfz11_0, hfz11_1⟩ := cz2 BK426; obtain ⟨hcz12_0, hcz12_1, hfz12_0, hfz12_1⟩ := cz2 BK427) | ((with_reducible refine gate_callee (f := 31) rfl ?_); refine gL 24 Try.func31 #[.agg #[.int .i64 t422, .int .i64 t423], .agg #[.int .i64 t424, .int .i64 t425]] ?_; (with_reducible refine (spec_SpotSquare.calls k t422 t423 t424 t425 t428 t429 t430 _ A4.out).mono ?_); rintro e w13 ⟨rfl, hb⟩; refine ⟨_, rfl, ?_⟩; replace BK426 := bb (o := .cells #[.int .i64 t422, .int .i64 t423] 24 (0, 0)) (bkp BK426) hb; replace BK427 := bb (o := .cells #[.int .i64 t424, .int .i64 t425] 24 (0, 0)) (bkp BK427) hb; replace HB := hbb (hs_ HB) hb; clear hb) | ((with_reducible refine gate_dst (N := 5) rfl ?_); refine bE 5 #[.int .i64 0, .int .i64 0] 42 ?_; intro gb431 hg w14 hbox hb; have BK431 := Aside0.mk (hbox); have GE431 := gw hg (hs_ HB); have GW431 := GE431; have NB426_431 := nl hg (bk BK426); have NB431_426 := ng hg (bk BK426); have NB427_431 := nl hg (bk BK427); have NB431_427 := ng hg (bk BK427); replace BK426 := bb (bk BK426) hb; replace BK427 := bb (bk BK427) hb; replace HB := hbb (hs_ HB) hb; clear hb hbox hg; have hnb15 := NB431_426.out; have hnc15 := NB426_431.out; have hnb16 := NB431_427.out; have hnc16 := NB427_431.out; obtain ⟨hcz17_0, hcz17_1, hfz17_0, hfz17_1⟩ := cz2 BK431; obtain ⟨hcz18_0, hcz18_1, hfz18_0, hfz18_1⟩ := cz2 BK426; obtain ⟨hcz19_0, hcz19_1, hfz19_0, hfz19_1⟩ := cz2 BK427) | ((with_reducible refine gate_callee (f := 32) rfl ?_); refine gL 30 Try.func32 #[.agg #[.int .i64 t422, .int .i64 t423], .agg #[.int .i64 t424, .int .i64 t425]] ?_; (with_reducible refine (impl_SpotSquare.calls k t422 t423 t424 t425 t432 t433 t434 _ A5.out).mono ?_); rintro e w20 ⟨rfl, hb⟩; refine ⟨_, rfl, ?_⟩; replace BK426 := bb (bk1 BK426 NB426_431) hb; replace BK427 := bb (bk1 BK427 NB427_431) hb; replace BK431 := bb (o := .cells #[.int .i64 t428, .int .i64 t429] 42 (0, 0)) (bkp BK431) hb; replace HB := hbb (hs_ HB) hb; clear hb) | ((with_reducible refine gate_dst (N := 7) rfl ?_); refine bE 7 #[.int .i64 0, .int .i64 0] 42 ?_; intro gb435 hg w21 hbox hb; have BK435 := Aside0.mk (hbox); have GE435 := gw hg (hs_ HB); have GW435 := GE435; have NB426_435 := nl hg (bk BK426); have NB435_426 := ng hg (bk BK426); have NB427_435 := nl hg (bk BK427); have NB435_427 := ng hg (bk BK427); have NB431_435 := nl hg (bk BK431); have NB435_431 := ng hg (bk BK431); replace BK426 := bb (bk BK426) hb; replace BK427 := bb (bk BK427) hb; replace BK431 := bb (bk BK431) hb; replace HB := hbb (hs_ HB) hb; clear hb hbox hg; have hnb22 := NB435_426.out; have hnc22 := NB426_435.out; have hnb23 := NB435_427.out; have hnc23 := NB427_435.out; have hnb24 := NB435_431.out; have hnc24 := NB431_435.out; obtain ⟨hcz25_0, hcz25_1, hfz25_0, hfz25_1⟩ := cz2 BK435))
  (try simp only [Act.put, List.setIfInBounds_toArray, List.set_cons_zero, List.set_cons_succ])
  go_cut [44] (fun v44 wc => ∃ (kq : Nat) (x44_5 : Bool), v44 = .bool x44_5 ∧ Aside0 (laws_FnSpotSquareFar.j0 kq t430 t434 x44_5 t422 t423 t424 t425 t428 t429 t432 t433 = some r) ∧ Aside0 (kq ≤ k) ∧ Aside0 (wc.heap[gb426]? = some (.cells #[.int .i64 t422, .int .i64 t423] 24 (0, 0))) ∧ Aside0 (wc.heap[gb427]? = some (.cells #[.int .i64 t424, .int .i64 t425] 24 (0, 0))) ∧ Aside0 (wc.heap[gb431]? = some (.cells #[.int .i64 t428, .int .i64 t429] 42 (0, 0))) ∧ Aside0 (wc.heap[gb435]? = some (.cells #[.int .i64 t432, .int .i64 t433] 42 (0, 0))) ∧ Aside0 (Below w.heap.size w wc))
  case first =>
   have H := HC6.out
   clear HC6
   by_cases c26 : (t434 != t430) = true
   ·rw [if_pos c26] at H
    have c26b0 : (t434 != t430) = true := c26
    (try (have c26b1 : decide (t434 = t430) = false := by simpa using c26))
    (try (have c26b2 : (t434 == t430) = false := by simpa using c26))
    (try (have c26b3 : ¬ (t434 = t430) := by simpa using c26))
    clear c26
    (first | rw [c26b0] | (simp only [i64_w, i32_w]; rw [c26b0]) | skip)
    have H' := Aside0.mk H
    clear H
    go_wp2
    go_meet
    case rel => exact ⟨_, (true), (by first | rfl | (simp; done) | (simp [*]; done)), H', ⟨by first | omega | exact Nat.le_refl _⟩, ⟨bk1 BK426 NB426_435⟩, ⟨bk1 BK427 NB427_435⟩, ⟨bk1 BK431 NB431_435⟩, ⟨bkp BK435⟩, ⟨hs_ HB⟩⟩
   ·rw [if_neg c26] at H
    have c26b0 : (t434 != t430) = false := by simpa using c26
    (try (have c26b1 : decide (t434 = t430) = true := by simpa using c26))
    (try (have c26b2 : (t434 == t430) = true := by simpa using c26))
    clear c26
    (first | rw [c26b0] | (simp only [i64_w, i32_w]; rw [c26b0]) | skip)
    by_cases c27 : (!(t432 == t428) || (!(t433 == t429))) = true
    ·rw [if_pos c27] at H
     have c27b0 : (!(t432 == t428) || (!(t433 == t429))) = true := c27
     clear c27
     have H' := Aside0.mk H
     clear H
     have hnb28 := NB435_426.out
     have hnc28 := NB426_435.out
     have hnb29 := NB435_427.out
     have hnc29 := NB427_435.out
     have hnb30 := NB435_431.out
     have hnc30 := NB431_435.out
     obtain ⟨hcz31_0, hcz31_1, hfz31_0, hfz31_1⟩ := cz2 BK435
     have hnb32 := NB431_426.out
     have hnc32 := NB426_431.out
     have hnb33 := NB431_427.out
     have hnc33 := NB427_431.out
     obtain ⟨hcz34_0, hcz34_1, hfz34_0, hfz34_1⟩ := cz2 BK431
     go_wp2
     go_meet
     case rel => exact ⟨_, (true), (by first | rfl | (simp; done) | (simp [*]; done)), H', ⟨by first | omega | exact Nat.le_refl _⟩, ⟨bk1 BK426 NB426_435⟩, ⟨bk1 BK427 NB427_435⟩, ⟨bk1 BK431 NB431_435⟩, ⟨bkp BK435⟩, ⟨hs_ HB⟩⟩
    ·rw [if_neg c27] at H
     have c27b0 : (!(t432 == t428) || (!(t433 == t429))) = false := by simpa using c27
     clear c27
     have H' := Aside0.mk H
     clear H
     have hnb35 := NB435_426.out
     have hnc35 := NB426_435.out
     have hnb36 := NB435_427.out
     have hnc36 := NB427_435.out
     have hnb37 := NB435_431.out
     have hnc37 := NB431_435.out
     obtain ⟨hcz38_0, hcz38_1, hfz38_0, hfz38_1⟩ := cz2 BK435
     have hnb39 := NB431_426.out
     have hnc39 := NB426_431.out
     have hnb40 := NB431_427.out
     have hnc40 := NB427_431.out
     obtain ⟨hcz41_0, hcz41_1, hfz41_0, hfz41_1⟩ := cz2 BK431
     go_wp2
     go_meet
     case rel => exact ⟨_, (!t434), (by first | rfl | (simp; done) | (simp [*]; done)), H', ⟨by first | omega | exact Nat.le_refl _⟩, ⟨bk1 BK426 NB426_435⟩, ⟨bk1 BK427 NB427_435⟩, ⟨bk1 BK431 NB431_435⟩, ⟨bkp BK435⟩, ⟨hs_ HB⟩⟩
  case rest =>
   clear HC6
   try clear c1
   try clear c2
   try clear c2b0
   try clear c2b1
   try clear p2
   try clear c3
   try clear c4
   try clear c7
   try clear c10
   try clear c15
   try clear c16
   try clear c22
   try clear c23
   try clear c24
   try clear c26
   try clear c26b0
   try clear c26b1
   try clear c26b2
   try clear c27
   try clear c27b0
   try clear c28
   try clear c29
   try clear c30
   try clear c31
   try clear c32
   try clear c33
   try clear c35
   try clear c36
   try clear c37
   try clear c39
   try clear c40
   try clear hcz11_0
   try clear hcz11_1
   try clear hcz12_0
   try clear hcz12_1
   try clear hcz17_0
   try clear hcz17_1
   try clear hcz18_0
   try clear hcz18_1
   try clear hcz19_0
   try clear hcz19_1
   try clear hcz25_0
   try clear hcz25_1
   try clear hcz31_0
   try clear hcz31_1
   try clear hcz34_0
   try clear hcz34_1
   try clear hcz38_0
   try clear hcz38_1
   try clear hcz41_0
   try clear hcz41_1
   try clear hfz11_0
   try clear hfz11_1
   try clear hfz12_0
   try clear hfz12_1
   try clear hfz17_0
   try clear hfz17_1
   try clear hfz18_0
   try clear hfz18_1
   try clear hfz19_0
   try clear hfz19_1
   try clear hfz25_0
   try clear hfz25_1
   try clear hfz31_0
   try clear hfz31_1
   try clear hfz34_0
   try clear hfz34_1
   try clear hfz38_0
   try clear hfz38_1
   try clear hfz41_0
   try clear hfz41_1
   obtain ⟨kq, x44_5, rfl, HA, HJ5, BK426, BK427, BK431, BK435, HB⟩ := hcut
   cases kq with
   | zero => exact absurd HA.out (by simp [laws_FnSpotSquareFar.j0])
   | succ kj5 =>
    have H := HA.out
    clear HA
    simp only [laws_FnSpotSquareFar.j0] at H
    by_cases c42 : x44_5 = true
    ·subst c42
     have H1 : (if (t434 == t430) = true then (some (t432 == t428 && (t433 == t429))) else (some false)) = some r := by rw [if_pos rfl] at H; exact H
     clear H
     have H := H1
     clear H1
     by_cases c43 : (t434 == t430) = true
     ·rw [if_pos c43] at H
      have c43b0 : (t434 == t430) = true := c43
      (try (have c43b1 : decide (t434 = t430) = true := by simpa using c43))
      (try (have c43b2 : (t434 == t430) = true := by simpa using c43))
      clear c43
      obtain rfl := Option.some.inj H
      have hnb44 := NB435_426.out
      have hnc44 := NB426_435.out
      have hnb45 := NB435_427.out
      have hnc45 := NB427_435.out
      have hnb46 := NB435_431.out
      have hnc46 := NB431_435.out
      obtain ⟨hcz47_0, hcz47_1, hfz47_0, hfz47_1⟩ := cz2 BK435
      have hnb48 := NB431_426.out
      have hnc48 := NB426_431.out
      have hnb49 := NB431_427.out
      have hnc49 := NB427_431.out
      obtain ⟨hcz50_0, hcz50_1, hfz50_0, hfz50_1⟩ := cz2 BK431
      go_wp2
      go_ret
      exact ⟨by first | rfl | (simp [errW_none, errW_some] <;> rfl) | (simp [*, errW_none, errW_some] <;> rfl), hs_ HB⟩
     ·rw [if_neg c43] at H
      have c43b0 : (t434 == t430) = false := by simpa using c43
      (try (have c43b1 : decide (t434 = t430) = false := by simpa using c43))
      (try (have c43b2 : (t434 == t430) = false := by simpa using c43))
      (try (have c43b3 : ¬ (t434 = t430) := by simpa using c43))
      clear c43
      obtain rfl := Option.some.inj H
      go_wp2
      go_ret
      exact ⟨by first | rfl | (simp [errW_none, errW_some] <;> rfl) | (simp [*, errW_none, errW_some] <;> rfl), hs_ HB⟩
    ·replace c42 := Bool.eq_false_iff.mpr c42
     subst c42
     have H1 : ((impl_SpotFar.f t424 t425).bind fun bt436 => ((impl_SpotSquare.f kj5 t422 t423 bt436.1 bt436.2.1).bind fun bt440 => (if bt440.2.2 = true then (if (wrap64 (t432 + bt440.1)) ≤ 1000000000 then (some (decide ((wrap64 (t433 + bt440.2.1)) ≥ 1000000000))) else (some false)) else (some false)))) = some r := by rw [if_neg (show ¬ (false = true) by decide)] at H; exact H
     clear H
     have H := H1
     clear H1
     replace H := Option.bind_eq_some_iff.mp H
     obtain ⟨⟨t436, t437, t438⟩, A510, H⟩ := H
     replace H : ((impl_SpotSquare.f kj5 t422 t423 t436 t437).bind fun bt440 => (if bt440.2.2 = true then (if (wrap64 (t432 + bt440.1)) ≤ 1000000000 then (some (decide ((wrap64 (t433 + bt440.2.1)) ≥ 1000000000))) else (some false)) else (some false))) = some r := H
     have A51 := Aside0.mk A510
     clear A510
     replace H := Option.bind_eq_some_iff.mp H
     obtain ⟨⟨t440, t441, t442⟩, A520, H⟩ := H
     replace H : (if t442 = true then (if (wrap64 (t432 + t440)) ≤ 1000000000 then (some (decide ((wrap64 (t433 + t441)) ≥ 1000000000))) else (some false)) else (some false)) = some r := H
     have A52 := Aside0.mk A520
     clear A520
     by_cases c53 : t442 = true
     ·subst c53
      have H1 : (if (wrap64 (t432 + t440)) ≤ 1000000000 then (some (decide ((wrap64 (t433 + t441)) ≥ 1000000000))) else (some false)) = some r := by rw [if_pos rfl] at H; exact H
      clear H
      have H := H1
      clear H1
      by_cases c54 : (wrap64 (t432 + t440)) ≤ 1000000000
      ·rw [if_pos c54] at H
       have c54b0 : decide ((wrap64 (t432 + t440)) ≤ 1000000000) = true := decide_eq_true c54
       clear c54
       obtain rfl := Option.some.inj H
       have hnb55 := NB427_426.out
       have hnc55 := NB426_427.out
       have hnb56 := NB427_431.out
       have hnc56 := NB431_427.out
       have hnb57 := NB427_435.out
       have hnc57 := NB435_427.out
       obtain ⟨hcz58_0, hcz58_1, hfz58_0, hfz58_1⟩ := cz2 BK427
       go_wp2_with (first | ((with_reducible refine gate_callee (f := 19) rfl ?_); refine gL 55 Try.func19 #[.agg #[.int .i64 t424, .int .i64 t425]] ?_; (with_reducible refine (impl_SpotFar.calls t424 t425 t436 t437 t438 _ A51.out).mono ?_); rintro e w59 ⟨rfl, hb⟩; refine ⟨_, rfl, ?_⟩; replace BK426 := bb (bk BK426) hb; replace BK427 := bb (bk BK427) hb; replace BK431 := bb (bk BK431) hb; replace BK435 := bb (bk BK435) hb; replace HB := hbb (hs_ HB) hb; clear hb) | ((with_reducible refine gate_dst (N := 9) rfl ?_); refine bE 9 #[.int .i64 0, .int .i64 0] 24 ?_; intro gb439 hg w60 hbox hb; have BK439 := Aside0.mk (hbox); have GE439 := gw hg (hs_ HB); have GW439 := GE439; have NB426_439 := nl hg (bk BK426); have NB439_426 := ng hg (bk BK426); have NB427_439 := nl hg (bk BK427); have NB439_427 := ng hg (bk BK427); have NB431_439 := nl hg (bk BK431); have NB439_431 := ng hg (bk BK431); have NB435_439 := nl hg (bk BK435); have NB439_435 := ng hg (bk BK435); replace BK426 := bb (bk BK426) hb; replace BK427 := bb (bk BK427) hb; replace BK431 := bb (bk BK431) hb; replace BK435 := bb (bk BK435) hb; replace HB := hbb (hs_ HB) hb; clear hb hbox hg; have hnb61 := NB439_426.out; have hnc61 := NB426_439.out; have hnb62 := NB439_427.out; have hnc62 := NB427_439.out; have hnb63 := NB439_431.out; have hnc63 := NB431_439.out; have hnb64 := NB439_435.out; have hnc64 := NB435_439.out; obtain ⟨hcz65_0, hcz65_1, hfz65_0, hfz65_1⟩ := cz2 BK439; have hnb66 := NB426_431.out; have hnc66 := NB431_426.out; have hnb67 := NB426_435.out; have hnc67 := NB435_426.out; obtain ⟨hcz68_0, hcz68_1, hfz68_0, hfz68_1⟩ := cz2 BK426) | ((with_reducible refine gate_callee (f := 32) rfl ?_); refine gL 61 Try.func32 #[.agg #[.int .i64 t422, .int .i64 t423], .agg #[.int .i64 t436, .int .i64 t437]] ?_; (with_reducible refine (impl_SpotSquare.calls kj5 t422 t423 t436 t437 t440 t441 true _ A52.out).mono ?_); rintro e w69 ⟨rfl, hb⟩; refine ⟨_, rfl, ?_⟩; replace BK426 := bb (bk1 BK426 NB426_439) hb; replace BK427 := bb (bk1 BK427 NB427_439) hb; replace BK431 := bb (bk1 BK431 NB431_439) hb; replace BK435 := bb (bk1 BK435 NB435_439) hb; replace BK439 := bb (o := .cells #[.int .i64 t436, .int .i64 t437] 24 (0, 0)) (bkp BK439) hb; replace HB := hbb (hs_ HB) hb; clear hb) | ((with_reducible refine gate_dst (N := 11) rfl ?_); refine bE 11 #[.int .i64 0, .int .i64 0] 42 ?_; intro gb443 hg w70 hbox hb; have BK443 := Aside0.mk (hbox); have GE443 := gw hg (hs_ HB); have GW443 := GE443; have NB426_443 := nl hg (bk BK426); have NB443_426 := ng hg (bk BK426); have NB427_443 := nl hg (bk BK427); have NB443_427 := ng hg (bk BK427); have NB431_443 := nl hg (bk BK431); have NB443_431 := ng hg (bk BK431); have NB435_443 := nl hg (bk BK435); have NB443_435 := ng hg (bk BK435); have NB439_443 := nl hg (bk BK439); have NB443_439 := ng hg (bk BK439); replace BK426 := bb (bk BK426) hb; replace BK427 := bb (bk BK427) hb; replace BK431 := bb (bk BK431) hb; replace BK435 := bb (bk BK435) hb; replace BK439 := bb (bk BK439) hb; replace HB := hbb (hs_ HB) hb; clear hb hbox hg; have hnb71 := NB443_426.out; have hnc71 := NB426_443.out; have hnb72 := NB443_427.out; have hnc72 := NB427_443.out; have hnb73 := NB443_431.out; have hnc73 := NB431_443.out; have hnb74 := NB443_435.out; have hnc74 := NB435_443.out; have hnb75 := NB443_439.out; have hnc75 := NB439_443.out; obtain ⟨hcz76_0, hcz76_1, hfz76_0, hfz76_1⟩ := cz2 BK443; have hnb77 := NB435_431.out; have hnc77 := NB431_435.out; obtain ⟨hcz78_0, hcz78_1, hfz78_0, hfz78_1⟩ := cz2 BK435))
       go_ret
       exact ⟨by first | rfl | (simp [errW_none, errW_some] <;> rfl) | (simp [*, errW_none, errW_some] <;> rfl), hs_ HB⟩
      ·rw [if_neg c54] at H
       have c54b0 : decide ((wrap64 (t432 + t440)) ≤ 1000000000) = false := decide_eq_false c54
       clear c54
       obtain rfl := Option.some.inj H
       have hnb79 := NB427_426.out
       have hnc79 := NB426_427.out
       have hnb80 := NB427_431.out
       have hnc80 := NB431_427.out
       have hnb81 := NB427_435.out
       have hnc81 := NB435_427.out
       obtain ⟨hcz82_0, hcz82_1, hfz82_0, hfz82_1⟩ := cz2 BK427
       go_wp2_with (first | ((with_reducible refine gate_callee (f := 19) rfl ?_); refine gL 55 Try.func19 #[.agg #[.int .i64 t424, .int .i64 t425]] ?_; (with_reducible refine (impl_SpotFar.calls t424 t425 t436 t437 t438 _ A51.out).mono ?_); rintro e w83 ⟨rfl, hb⟩; refine ⟨_, rfl, ?_⟩; replace BK426 := bb (bk BK426) hb; replace BK427 := bb (bk BK427) hb; replace BK431 := bb (bk BK431) hb; replace BK435 := bb (bk BK435) hb; replace HB := hbb (hs_ HB) hb; clear hb) | ((with_reducible refine gate_dst (N := 9) rfl ?_); refine bE 9 #[.int .i64 0, .int .i64 0] 24 ?_; intro gb439 hg w84 hbox hb; have BK439 := Aside0.mk (hbox); have GE439 := gw hg (hs_ HB); have GW439 := GE439; have NB426_439 := nl hg (bk BK426); have NB439_426 := ng hg (bk BK426); have NB427_439 := nl hg (bk BK427); have NB439_427 := ng hg (bk BK427); have NB431_439 := nl hg (bk BK431); have NB439_431 := ng hg (bk BK431); have NB435_439 := nl hg (bk BK435); have NB439_435 := ng hg (bk BK435); replace BK426 := bb (bk BK426) hb; replace BK427 := bb (bk BK427) hb; replace BK431 := bb (bk BK431) hb; replace BK435 := bb (bk BK435) hb; replace HB := hbb (hs_ HB) hb; clear hb hbox hg; have hnb85 := NB439_426.out; have hnc85 := NB426_439.out; have hnb86 := NB439_427.out; have hnc86 := NB427_439.out; have hnb87 := NB439_431.out; have hnc87 := NB431_439.out; have hnb88 := NB439_435.out; have hnc88 := NB435_439.out; obtain ⟨hcz89_0, hcz89_1, hfz89_0, hfz89_1⟩ := cz2 BK439; have hnb90 := NB426_431.out; have hnc90 := NB431_426.out; have hnb91 := NB426_435.out; have hnc91 := NB435_426.out; obtain ⟨hcz92_0, hcz92_1, hfz92_0, hfz92_1⟩ := cz2 BK426) | ((with_reducible refine gate_callee (f := 32) rfl ?_); refine gL 61 Try.func32 #[.agg #[.int .i64 t422, .int .i64 t423], .agg #[.int .i64 t436, .int .i64 t437]] ?_; (with_reducible refine (impl_SpotSquare.calls kj5 t422 t423 t436 t437 t440 t441 true _ A52.out).mono ?_); rintro e w93 ⟨rfl, hb⟩; refine ⟨_, rfl, ?_⟩; replace BK426 := bb (bk1 BK426 NB426_439) hb; replace BK427 := bb (bk1 BK427 NB427_439) hb; replace BK431 := bb (bk1 BK431 NB431_439) hb; replace BK435 := bb (bk1 BK435 NB435_439) hb; replace BK439 := bb (o := .cells #[.int .i64 t436, .int .i64 t437] 24 (0, 0)) (bkp BK439) hb; replace HB := hbb (hs_ HB) hb; clear hb) | ((with_reducible refine gate_dst (N := 11) rfl ?_); refine bE 11 #[.int .i64 0, .int .i64 0] 42 ?_; intro gb443 hg w94 hbox hb; have BK443 := Aside0.mk (hbox); have GE443 := gw hg (hs_ HB); have GW443 := GE443; have NB426_443 := nl hg (bk BK426); have NB443_426 := ng hg (bk BK426); have NB427_443 := nl hg (bk BK427); have NB443_427 := ng hg (bk BK427); have NB431_443 := nl hg (bk BK431); have NB443_431 := ng hg (bk BK431); have NB435_443 := nl hg (bk BK435); have NB443_435 := ng hg (bk BK435); have NB439_443 := nl hg (bk BK439); have NB443_439 := ng hg (bk BK439); replace BK426 := bb (bk BK426) hb; replace BK427 := bb (bk BK427) hb; replace BK431 := bb (bk BK431) hb; replace BK435 := bb (bk BK435) hb; replace BK439 := bb (bk BK439) hb; replace HB := hbb (hs_ HB) hb; clear hb hbox hg; have hnb95 := NB443_426.out; have hnc95 := NB426_443.out; have hnb96 := NB443_427.out; have hnc96 := NB427_443.out; have hnb97 := NB443_431.out; have hnc97 := NB431_443.out; have hnb98 := NB443_435.out; have hnc98 := NB435_443.out; have hnb99 := NB443_439.out; have hnc99 := NB439_443.out; obtain ⟨hcz100_0, hcz100_1, hfz100_0, hfz100_1⟩ := cz2 BK443; have hnb101 := NB435_431.out; have hnc101 := NB431_435.out; obtain ⟨hcz102_0, hcz102_1, hfz102_0, hfz102_1⟩ := cz2 BK435))
       go_ret
       exact ⟨by first | rfl | (simp [errW_none, errW_some] <;> rfl) | (simp [*, errW_none, errW_some] <;> rfl), hs_ HB⟩
     ·replace c53 := Bool.eq_false_iff.mpr c53
      subst c53
      have H1 : (some false) = some r := by rw [if_neg (show ¬ (false = true) by decide)] at H; exact H
      clear H
      have H := H1
      clear H1
      obtain rfl := Option.some.inj H
      have hnb103 := NB427_426.out
      have hnc103 := NB426_427.out
      have hnb104 := NB427_431.out
      have hnc104 := NB431_427.out
      have hnb105 := NB427_435.out
      have hnc105 := NB435_427.out
      obtain ⟨hcz106_0, hcz106_1, hfz106_0, hfz106_1⟩ := cz2 BK427
      go_wp2_with (first | ((with_reducible refine gate_callee (f := 19) rfl ?_); refine gL 55 Try.func19 #[.agg #[.int .i64 t424, .int .i64 t425]] ?_; (with_reducible refine (impl_SpotFar.calls t424 t425 t436 t437 t438 _ A51.out).mono ?_); rintro e w107 ⟨rfl, hb⟩; refine ⟨_, rfl, ?_⟩; replace BK426 := bb (bk BK426) hb; replace BK427 := bb (bk BK427) hb; replace BK431 := bb (bk BK431) hb; replace BK435 := bb (bk BK435) hb; replace HB := hbb (hs_ HB) hb; clear hb) | ((with_reducible refine gate_dst (N := 9) rfl ?_); refine bE 9 #[.int .i64 0, .int .i64 0] 24 ?_; intro gb439 hg w108 hbox hb; have BK439 := Aside0.mk (hbox); have GE439 := gw hg (hs_ HB); have GW439 := GE439; have NB426_439 := nl hg (bk BK426); have NB439_426 := ng hg (bk BK426); have NB427_439 := nl hg (bk BK427); have NB439_427 := ng hg (bk BK427); have NB431_439 := nl hg (bk BK431); have NB439_431 := ng hg (bk BK431); have NB435_439 := nl hg (bk BK435); have NB439_435 := ng hg (bk BK435); replace BK426 := bb (bk BK426) hb; replace BK427 := bb (bk BK427) hb; replace BK431 := bb (bk BK431) hb; replace BK435 := bb (bk BK435) hb; replace HB := hbb (hs_ HB) hb; clear hb hbox hg; have hnb109 := NB439_426.out; have hnc109 := NB426_439.out; have hnb110 := NB439_427.out; have hnc110 := NB427_439.out; have hnb111 := NB439_431.out; have hnc111 := NB431_439.out; have hnb112 := NB439_435.out; have hnc112 := NB435_439.out; obtain ⟨hcz113_0, hcz113_1, hfz113_0, hfz113_1⟩ := cz2 BK439; have hnb114 := NB426_431.out; have hnc114 := NB431_426.out; have hnb115 := NB426_435.out; have hnc115 := NB435_426.out; obtain ⟨hcz116_0, hcz116_1, hfz116_0, hfz116_1⟩ := cz2 BK426) | ((with_reducible refine gate_callee (f := 32) rfl ?_); refine gL 61 Try.func32 #[.agg #[.int .i64 t422, .int .i64 t423], .agg #[.int .i64 t436, .int .i64 t437]] ?_; (with_reducible refine (impl_SpotSquare.calls kj5 t422 t423 t436 t437 t440 t441 false _ A52.out).mono ?_); rintro e w117 ⟨rfl, hb⟩; refine ⟨_, rfl, ?_⟩; replace BK426 := bb (bk1 BK426 NB426_439) hb; replace BK427 := bb (bk1 BK427 NB427_439) hb; replace BK431 := bb (bk1 BK431 NB431_439) hb; replace BK435 := bb (bk1 BK435 NB435_439) hb; replace BK439 := bb (o := .cells #[.int .i64 t436, .int .i64 t437] 24 (0, 0)) (bkp BK439) hb; replace HB := hbb (hs_ HB) hb; clear hb) | ((with_reducible refine gate_dst (N := 11) rfl ?_); refine bE 11 #[.int .i64 0, .int .i64 0] 42 ?_; intro gb443 hg w118 hbox hb; have BK443 := Aside0.mk (hbox); have GE443 := gw hg (hs_ HB); have GW443 := GE443; have NB426_443 := nl hg (bk BK426); have NB443_426 := ng hg (bk BK426); have NB427_443 := nl hg (bk BK427); have NB443_427 := ng hg (bk BK427); have NB431_443 := nl hg (bk BK431); have NB443_431 := ng hg (bk BK431); have NB435_443 := nl hg (bk BK435); have NB443_435 := ng hg (bk BK435); have NB439_443 := nl hg (bk BK439); have NB443_439 := ng hg (bk BK439); replace BK426 := bb (bk BK426) hb; replace BK427 := bb (bk BK427) hb; replace BK431 := bb (bk BK431) hb; replace BK435 := bb (bk BK435) hb; replace BK439 := bb (bk BK439) hb; replace HB := hbb (hs_ HB) hb; clear hb hbox hg; have hnb119 := NB443_426.out; have hnc119 := NB426_443.out; have hnb120 := NB443_427.out; have hnc120 := NB427_443.out; have hnb121 := NB443_431.out; have hnc121 := NB431_443.out; have hnb122 := NB443_435.out; have hnc122 := NB435_443.out; have hnb123 := NB443_439.out; have hnc123 := NB439_443.out; obtain ⟨hcz124_0, hcz124_1, hfz124_0, hfz124_1⟩ := cz2 BK443))
      go_ret
      exact ⟨by first | rfl | (simp [errW_none, errW_some] <;> rfl) | (simp [*, errW_none, errW_some] <;> rfl), hs_ HB⟩


theorem drawSpotSquare_tells {l : List Int} (hl : Bytes l) {k : Nat} (hk : 20 ≤ k) : ∃ pu pa qu qa, spec_DrawSpotSquare.f k l = some (pu, pa, qu, qa) := by
  unfold spec_DrawSpotSquare.f
  obtain ⟨b, h1, h2, h3⟩ := open_tells hl
  rw [h1]; simp only [Option.bind_some]
  obtain ⟨pu, pa, qu, qa, p, q1, q2, q3⟩ := spots_tells h2 h3 (show (0 : Int) ≤ 0 by omega) (by omega) hk
  rw [q1]; simp only [Option.bind_some]
  exact ⟨_, _, _, _, rfl⟩
theorem squareR_in {pu pa qu qa : Int} (h : (Up pu ∧ Ar pa) ∧ (Up qu ∧ Ar qa)) : squareR pu pa qu qa = ((squareM pu pa qu qa).1, (squareM pu pa qu qa).2, true) := if_pos h
theorem squareR_out {pu pa qu qa : Int} (h : ¬ ((Up pu ∧ Ar pa) ∧ (Up qu ∧ Ar qa))) : squareR pu pa qu qa = (0, 0, false) := if_neg h
theorem FnSpotSquareFar_pure {l0 : List Int} (hl : Bytes l0) {k : Nat} (hk : 300 ≤ k) : laws_FnSpotSquareFar.f (k + 1) l0 = some true := by
  unfold laws_FnSpotSquareFar.f
  by_cases h : (l0.length : Int) > 1048576
  · rw [if_pos h]
  rw [if_neg h]
  obtain ⟨pu, pa, qu, qa, hd⟩ := drawSpotSquare_tells hl (k := k + 1) (by omega)
  obtain ⟨i1, i2⟩ := SpotSquare_is pu pa qu qa (k := k + 1) (by omega)
  rw [hd]; simp only [Option.bind_some]
  rw [i1, i2]
  by_cases hin : (Up pu ∧ Ar pa) ∧ (Up qu ∧ Ar qa)
  · rw [squareR_in hin]
    simp only [Option.bind_some, bne_self_eq_false, beq_self_eq_true, Bool.not_true, Bool.not_false, Bool.or_false, Bool.or_self, Bool.and_self, Bool.false_eq_true, if_false, if_true]
    rw [laws_FnSpotSquareFar.j0]
    simp only [Bool.false_eq_true, if_false]
    have us := (square_parts hin.1.1 hin.2.1 pa qa).2.2
    have hq' : Up (-qu) := ⟨by have := hin.2.1.2; omega, by have := hin.2.1.1; omega⟩
    have ut := (square_parts hin.1.1 hq' pa (farA qa)).2.2
    obtain ⟨s1, s2⟩ := square_far hin.1.1 hin.2.1 hin.1.2 hin.2.2
    have ef : farR qu qa = (-qu, farA qa, true) := if_pos hin.2
    rw [(SpotFar_is qu qa).1, ef]
    simp only [Option.bind_some]
    rw [(SpotSquare_is pu pa (-qu) (farA qa) (by omega)).1, squareR_in ⟨hin.1, hq', far_ar qa⟩]
    simp only [Option.bind_some, if_true]
    obtain ⟨a1, a2, a3⟩ := us
    obtain ⟨b1, b2, b3⟩ := ut
    rw [w64 (by omega) (by omega), w64 (by omega) (by omega), if_pos s1]
    simp [s2]
  · rw [squareR_out hin]
    simp [laws_FnSpotSquareFar.j0]
theorem FnSpotSquareFar_true (A0 : Option Addr) (c0 : Nat) (l0 : List Int) (w : World) (hr0 : Kd.C (Kd.int .u8) w A0 l0.length l0) (hc0 : l0.length ≤ c0) (hw0 : ∀ x ∈ l0, (Lit.int .u8 x).wf = true) :
    Calls Try.prog 7 #[.slice A0 l0.length c0] w fun e w' => e = .returned (.bool true) ∧ Below w.heap.size w w' :=
  laws_FnSpotSquareFar.calls 301 A0 c0 l0 true w hr0 hc0 (FnSpotSquareFar_pure (bytes_of hw0) (by omega))

end Go.Proofs.Ytmcippkpgmehdaa.M
