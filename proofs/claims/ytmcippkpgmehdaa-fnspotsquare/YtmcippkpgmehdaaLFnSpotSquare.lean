import Derived.Test.YtmcippkpgmehdaaP8
import Derived.Test.YtmcippkpgmehdaaP9
import Derived.Test.YtmcippkpgmehdaaDg
namespace Go.Proofs.Ytmcippkpgmehdaa.M
open Go.RowKit Go.Proofs.YtmcippkpgmehdaaW.PrintWords Go.Proofs.YtmcippkpgmehdaaW.PrintLast Go.Proofs.YtmcippkpgmehdaaW.PrintMore
attribute [local go_sem] max2_int min2_int max_two min_two max_three min_three max_four min_four
attribute [local go_sem high] eqA42 eqA29 eqA24
attribute [local go_sem] fld42_0 fld42_1 fld29_0 fld29_1 fld24_0 fld24_1 fld38_0 fld38_1 fld88_0 fld88_1 fld88_2 fld88_3 fld88_4
set_option linter.unusedVariables false
set_option linter.unusedSimpArgs false
/-! ### laws_FnSpotSquare: function 6 -/
def laws_FnSpotSquare.j0 : Nat → Bool → Bool → Bool → Int → Int → Int → Int → Int → Int → Int → Int → Option (Bool)
 | 0, _, _, _, _, _, _, _, _, _, _, _ => none
 | k + 1, x6, x8, x42, x427000, x427001, x428000, x428001, x432000, x432001, x436000, x436001 => if x42 = true then (if (x8 == x6) = true then (some (x436000 == x432000 && (x436001 == x432001))) else (some false)) else ((impl_SpotSquare.f k x428000 x428001 x427000 x427001).bind fun bt436 => (if bt436.2.2 = true then (if (bt436.1 == x436000 && (bt436.2.1 == x436001)) = true then (if x436000 ≥ 0 then (if x436001 ≤ 1000000000 then ((impl_SpotSame.f x427000 x427001 x428000 x428001).bind fun t440 => (if t440 = true then (some (x436000 == 0 && (x436001 == 0))) else (some true))) else (some false)) else (some false)) else (some false)) else (some false)))
def laws_FnSpotSquare.f (k : Nat) (l0 : List Int) : Option (Bool) := if (l0.length : Int) > 1048576 then (some true) else ((spec_DrawSpotSquare.f k l0).bind fun bt422 => ((spec_SpotSquare.f k bt422.1 bt422.2.1 bt422.2.2.1 bt422.2.2.2).bind fun bt428 => ((impl_SpotSquare.f k bt422.1 bt422.2.1 bt422.2.2.1 bt422.2.2.2).bind fun bt432 => (if (bt432.2.2 != bt428.2.2) = true then (laws_FnSpotSquare.j0 k bt428.2.2 bt432.2.2 true bt422.1 bt422.2.1 bt422.2.2.1 bt422.2.2.2 bt428.1 bt428.2.1 bt432.1 bt432.2.1) else (if (!(bt432.1 == bt428.1) || (!(bt432.2.1 == bt428.2.1))) = true then (laws_FnSpotSquare.j0 k bt428.2.2 bt432.2.2 true bt422.1 bt422.2.1 bt422.2.2.1 bt422.2.2.2 bt428.1 bt428.2.1 bt432.1 bt432.2.1) else (laws_FnSpotSquare.j0 k bt428.2.2 bt432.2.2 (!bt432.2.2) bt422.1 bt422.2.1 bt422.2.2.1 bt422.2.2.2 bt428.1 bt428.2.1 bt432.1 bt432.2.1))))))
theorem laws_FnSpotSquare.mono_l : ∀ k, (∀ y0 y1 y2 y3 y4 y5 y6 y7 y8 y9 y10, LeO (laws_FnSpotSquare.j0 k y0 y1 y2 y3 y4 y5 y6 y7 y8 y9 y10) (laws_FnSpotSquare.j0 (k + 1) y0 y1 y2 y3 y4 y5 y6 y7 y8 y9 y10))
 | 0 => fun _ _ _ _ _ _ _ _ _ _ _ r h => by simp [laws_FnSpotSquare.j0] at h
 | k + 1 => by
  have ih0 := laws_FnSpotSquare.mono_l k
  ·intro y0 y1 y2 y3 y4 y5 y6 y7 y8 y9 y10
   unfold laws_FnSpotSquare.j0
   repeat' first
   | (with_reducible exact ih0 _ _ _ _ _ _ _ _ _ _ _)
   | (with_reducible exact impl_SpotSquare.mono _ _ _ _ _)
   | (with_reducible exact spec_DrawSpotSquare.mono _ _)
   | (with_reducible exact spec_SpotSquare.mono _ _ _ _ _)
   | (with_reducible exact LeO.refl _)
   | (with_reducible exact LeO.none _)
   | (with_reducible refine LeO.ite ?_ ?_)
   | (with_reducible refine LeO.bind ?_ (fun _ => ?_))
   | exact ih0 _ _ _ _ _ _ _ _ _ _ _
   | exact impl_SpotSquare.mono _ _ _ _ _
   | exact spec_DrawSpotSquare.mono _ _
   | exact spec_SpotSquare.mono _ _ _ _ _
   | exact LeO.none _
   | refine LeO.ite ?_ ?_
   | refine LeO.bind ?_ (fun _ => ?_)
theorem laws_FnSpotSquare.mono : ∀ a0 k, LeO (laws_FnSpotSquare.f k a0) (laws_FnSpotSquare.f (k + 1) a0) := by
 intro a0 k
 have ih0 := laws_FnSpotSquare.mono_l k
 unfold laws_FnSpotSquare.f
 repeat' first
   | (with_reducible exact ih0 _ _ _ _ _ _ _ _ _ _ _)
   | (with_reducible exact impl_SpotSquare.mono _ _ _ _ _)
   | (with_reducible exact spec_DrawSpotSquare.mono _ _)
   | (with_reducible exact spec_SpotSquare.mono _ _ _ _ _)
   | (with_reducible exact LeO.refl _)
   | (with_reducible exact LeO.none _)
   | (with_reducible refine LeO.ite ?_ ?_)
   | (with_reducible refine LeO.bind ?_ (fun _ => ?_))
   | exact ih0 _ _ _ _ _ _ _ _ _ _ _
   | exact impl_SpotSquare.mono _ _ _ _ _
   | exact spec_DrawSpotSquare.mono _ _
   | exact spec_SpotSquare.mono _ _ _ _ _
   | exact LeO.none _
   | refine LeO.ite ?_ ?_
   | refine LeO.bind ?_ (fun _ => ?_)
set_option maxHeartbeats 8000000 in
set_option maxRecDepth 100000 in
theorem laws_FnSpotSquare.calls (k : Nat) (A0 : Option Addr) (c0 : Nat) (l0 : List Int) (r : Bool) (w : World) (hr0 : Kd.C (Kd.int .u8) w A0 l0.length l0) (hc0 : l0.length ≤ c0) (h : laws_FnSpotSquare.f k l0 = some r) :
  Calls Try.prog 6 #[.slice A0 l0.length c0] w fun e w' => e = .returned (.bool r) ∧ Below w.heap.size w w' := by
 have hu24 := Try.underlying24
 have hu42 := Try.underlying42
 have HR0 := Aside0.mk hr0
 have HC0 := Aside0.mk hc0
 clear hr0 hc0
 have HB := Aside0.mk (Below.refl w.heap.size w)
 have H : (if (l0.length : Int) > 1048576 then (some true) else ((spec_DrawSpotSquare.f k l0).bind fun bt422 => ((spec_SpotSquare.f k bt422.1 bt422.2.1 bt422.2.2.1 bt422.2.2.2).bind fun bt428 => ((impl_SpotSquare.f k bt422.1 bt422.2.1 bt422.2.2.1 bt422.2.2.2).bind fun bt432 => (if (bt432.2.2 != bt428.2.2) = true then (laws_FnSpotSquare.j0 k bt428.2.2 bt432.2.2 true bt422.1 bt422.2.1 bt422.2.2.1 bt422.2.2.2 bt428.1 bt428.2.1 bt432.1 bt432.2.1) else (if (!(bt432.1 == bt428.1) || (!(bt432.2.1 == bt428.2.1))) = true then (laws_FnSpotSquare.j0 k bt428.2.2 bt432.2.2 true bt422.1 bt422.2.1 bt422.2.2.1 bt422.2.2.2 bt428.1 bt428.2.1 bt432.1 bt432.2.1) else (laws_FnSpotSquare.j0 k bt428.2.2 bt432.2.2 (!bt432.2.2) bt422.1 bt422.2.1 bt422.2.2.1 bt422.2.2.2 bt428.1 bt428.2.1 bt432.1 bt432.2.1))))))) = some r := h
 clear h
 by_cases c2 : (l0.length : Int) > 1048576
 ·rw [if_pos c2] at H
  have c2b0 : decide (1048576 < (l0.length : Int)) = true := decide_eq_true c2
  have c2b1 : decide (1048576 < l0.length) = true := decide_eq_true (by omega)
  clear c2
  obtain rfl := Option.some.inj H
  go_enter Try.func6, Try.ntmps6
  go_wp2
  go_ret
  exact ⟨by first | rfl | (simp [errW_none, errW_some] <;> rfl) | (simp [*, errW_none, errW_some] <;> rfl), h0_ HB⟩
 ·rw [if_neg c2] at H
  have c2b0 : decide (1048576 < (l0.length : Int)) = false := decide_eq_false c2
  have c2b1 : decide (1048576 < l0.length) = false := decide_eq_false (by omega)
  clear c2
  replace H := Option.bind_eq_some_iff.mp H
  obtain ⟨⟨t422, t423, t424, t425⟩, A30, H⟩ := H
  replace H : ((spec_SpotSquare.f k t422 t423 t424 t425).bind fun bt428 => ((impl_SpotSquare.f k t422 t423 t424 t425).bind fun bt432 => (if (bt432.2.2 != bt428.2.2) = true then (laws_FnSpotSquare.j0 k bt428.2.2 bt432.2.2 true t422 t423 t424 t425 bt428.1 bt428.2.1 bt432.1 bt432.2.1) else (if (!(bt432.1 == bt428.1) || (!(bt432.2.1 == bt428.2.1))) = true then (laws_FnSpotSquare.j0 k bt428.2.2 bt432.2.2 true t422 t423 t424 t425 bt428.1 bt428.2.1 bt432.1 bt432.2.1) else (laws_FnSpotSquare.j0 k bt428.2.2 bt432.2.2 (!bt432.2.2) t422 t423 t424 t425 bt428.1 bt428.2.1 bt432.1 bt432.2.1))))) = some r := H
  have A3 := Aside0.mk A30
  clear A30
  replace H := Option.bind_eq_some_iff.mp H
  obtain ⟨⟨t428, t429, t430⟩, A40, H⟩ := H
  replace H : ((impl_SpotSquare.f k t422 t423 t424 t425).bind fun bt432 => (if (bt432.2.2 != t430) = true then (laws_FnSpotSquare.j0 k t430 bt432.2.2 true t422 t423 t424 t425 t428 t429 bt432.1 bt432.2.1) else (if (!(bt432.1 == t428) || (!(bt432.2.1 == t429))) = true then (laws_FnSpotSquare.j0 k t430 bt432.2.2 true t422 t423 t424 t425 t428 t429 bt432.1 bt432.2.1) else (laws_FnSpotSquare.j0 k t430 bt432.2.2 (!bt432.2.2) t422 t423 t424 t425 t428 t429 bt432.1 bt432.2.1)))) = some r := H
  have A4 := Aside0.mk A40
  clear A40
  replace H := Option.bind_eq_some_iff.mp H
  obtain ⟨⟨t432, t433, t434⟩, A50, H⟩ := H
  replace H : (if (t434 != t430) = true then (laws_FnSpotSquare.j0 k t430 t434 true t422 t423 t424 t425 t428 t429 t432 t433) else (if (!(t432 == t428) || (!(t433 == t429))) = true then (laws_FnSpotSquare.j0 k t430 t434 true t422 t423 t424 t425 t428 t429 t432 t433) else (laws_FnSpotSquare.j0 k t430 t434 (!t434) t422 t423 t424 t425 t428 t429 t432 t433))) = some r := H
  have A5 := Aside0.mk A50
  clear A50
  have HC6 := Aside0.mk H
  clear H
  go_enter Try.func6, Try.ntmps6
  go_upto_region 6 with (first | ((with_reducible refine gate_callee (f := 30) rfl ?_); refine gL 16 Try.func30 #[.slice A0 l0.length c0] ?_; (with_reducible refine (spec_DrawSpotSquare.calls k _ _ l0 t422 t423 t424 t425 _ ?side1 ?side2 A3.out).mono ?_); (case side1 => repeat (first | exact HR0.out | (with_reducible refine Kd.C_alloc ?_ _) | (with_reducible refine Kd.C_drewN ?_ _) | (with_reducible refine Kd.C_drew ?_))); (case side2 => exact HC0.out); rintro e w7 ⟨rfl, hb⟩; refine ⟨_, rfl, ?_⟩; replace HB := hbb (h0_ HB) hb; clear hb) | ((with_reducible refine gate_dst (N := 3) rfl ?_); refine bE 3 #[.int .i64 0, .int .i64 0] 24 ?_; intro gb426 hg w8 hbox hb; have BK426 := Aside0.mk (hbox); have GE426 := gw hg (h0_ HB); have GW426 := GE426; replace HB := hbb (h0_ HB) hb; clear hb hbox hg) | ((with_reducible refine gate_dst (N := 4) rfl ?_); refine bE 4 #[.int .i64 0, .int .i64 0] 24 ?_; intro gb427 hg w9 hbox hb; have BK427 := Aside0.mk (hbox); have GE427 := gw hg (hs_ HB); have GW427 := GE427; have NB426_427 := nl hg (bk BK426); have NB427_426 := ng hg (bk BK426); replace BK426 := bb (bk BK426) hb; replace HB := hbb (hs_ HB) hb; clear hb hbox hg; have hnb10 := NB426_427.out; have hnc10 := NB427_426.out; obtain ⟨hcz11_0, hcz11_1, hfz11_0, hfz11_1⟩ := cz2 BK426; obtain ⟨hcz12_0, hcz12_1, hfz12_0, hfz12_1⟩ := cz2 BK427) | ((with_reducible refine gate_callee (f := 31) rfl ?_); refine gL 22 Try.func31 #[.agg #[.int .i64 t422, .int .i64 t423], .agg #[.int .i64 t424, .int .i64 t425]] ?_; (with_reducible refine (spec_SpotSquare.calls k t422 t423 t424 t425 t428 t429 t430 _ A4.out).mono ?_); rintro e w13 ⟨rfl, hb⟩; refine ⟨_, rfl, ?_⟩; replace BK426 := bb (o := .cells #[.int .i64 t422, .int .i64 t423] 24 (0, 0)) (bkp BK426) hb; replace BK427 := bb (o := .cells #[.int .i64 t424, .int .i64 t425] 24 (0, 0)) (bkp BK427) hb; replace HB := hbb (hs_ HB) hb; clear hb) | ((with_reducible refine gate_dst (N := 5) rfl ?_); refine bE 5 #[.int .i64 0, .int .i64 0] 42 ?_; intro gb431 hg w14 hbox hb; have BK431 := Aside0.mk (hbox); have GE431 := gw hg (hs_ HB); have GW431 := GE431; have NB426_431 := nl hg (bk BK426); have NB431_426 := ng hg (bk BK426); have NB427_431 := nl hg (bk BK427); have NB431_427 := ng hg (bk BK427); replace BK426 := bb (bk BK426) hb; replace BK427 := bb (bk BK427) hb; replace HB := hbb (hs_ HB) hb; clear hb hbox hg; have hnb15 := NB431_426.out; have hnc15 := NB426_431.out; have hnb16 := NB431_427.out; have hnc16 := NB427_431.out; obtain ⟨hcz17_0, hcz17_1, hfz17_0, hfz17_1⟩ := cz2 BK431; obtain ⟨hcz18_0, hcz18_1, hfz18_0, hfz18_1⟩ := cz2 BK426; obtain ⟨hcz19_0, hcz19_1, hfz19_0, hfz19_1⟩ := cz2 BK427) | ((with_reducible refine gate_callee (f := 32) rfl ?_); refine gL 28 Try.func32 #[.agg #[.int .i64 t422, .int .i64 t423], .agg #[.int .i64 t424, .int .i64 t425]] ?_; (with_reducible refine (impl_SpotSquare.calls k t422 t423 t424 t425 t432 t433 t434 _ A5.out).mono ?_); rintro e w20 ⟨rfl, hb⟩; refine ⟨_, rfl, ?_⟩; replace BK426 := bb (bk1 BK426 NB426_431) hb; replace BK427 := bb (bk1 BK427 NB427_431) hb; replace BK431 := bb (o := .cells #[.int .i64 t428, .int .i64 t429] 42 (0, 0)) (bkp BK431) hb; replace HB := hbb (hs_ HB) hb; clear hb) | ((with_reducible refine gate_dst (N := 7) rfl ?_); refine bE 7 #[.int .i64 0, .int .i64 0] 42 ?_; intro gb435 hg w21 hbox hb; have BK435 := Aside0.mk (hbox); have GE435 := gw hg (hs_ HB); have GW435 := GE435; have NB426_435 := nl hg (bk BK426); have NB435_426 := ng hg (bk BK426); have NB427_435 := nl hg (bk BK427); have NB435_427 := ng hg (bk BK427); have NB431_435 := nl hg (bk BK431); have NB435_431 := ng hg (bk BK431); replace BK426 := bb (bk BK426) hb; replace BK427 := bb (bk BK427) hb; replace BK431 := bb (bk BK431) hb; replace HB := hbb (hs_ HB) hb; clear hb hbox hg; have hnb22 := NB435_426.out; have hnc22 := NB426_435.out; have hnb23 := NB435_427.out; have hnc23 := NB427_435.out; have hnb24 := NB435_431.out; have hnc24 := NB431_435.out; obtain ⟨hcz25_0, hcz25_1, hfz25_0, hfz25_1⟩ := cz2 BK435))
  (try simp only [Act.put, List.setIfInBounds_toArray, List.set_cons_zero, List.set_cons_succ])
  go_cut [42] (fun v42 wc => ∃ (kq : Nat) (x42_5 : Bool), v42 = .bool x42_5 ∧ Aside0 (laws_FnSpotSquare.j0 kq t430 t434 x42_5 t422 t423 t424 t425 t428 t429 t432 t433 = some r) ∧ Aside0 (kq ≤ k) ∧ Aside0 (wc.heap[gb426]? = some (.cells #[.int .i64 t422, .int .i64 t423] 24 (0, 0))) ∧ Aside0 (wc.heap[gb427]? = some (.cells #[.int .i64 t424, .int .i64 t425] 24 (0, 0))) ∧ Aside0 (wc.heap[gb431]? = some (.cells #[.int .i64 t428, .int .i64 t429] 42 (0, 0))) ∧ Aside0 (wc.heap[gb435]? = some (.cells #[.int .i64 t432, .int .i64 t433] 42 (0, 0))) ∧ Aside0 (Below w.heap.size w wc))
  case first =>
   have H := HC6.out
   clear HC6
   by_cases c26 : (t434 != t430) = true
   ·rw [if_pos c26] at H
    have c26b0 : (t434 != t430) = true := c26
    (try (have c26b1 : decide (t434 = t430) = false := by simpa using c26))
    (try (have c26b2 : (t434 == t430) = false := by simpa using c26))
    (try (have c26b3 : ¬ (t434 = t430) := by simpa using c26))
    clear c26
    (first | rw [c26b0] | (simp only [i64_w, i32_w]; rw [c26b0]) | skip)
    have H' := Aside0.mk H
    clear H
    go_wp2
    go_meet
    case rel => exact ⟨_, (true), (by first | rfl | (simp; done) | (simp [*]; done)), H', ⟨by first | omega | exact Nat.le_refl _⟩, ⟨bk1 BK426 NB426_435⟩, ⟨bk1 BK427 NB427_435⟩, ⟨bk1 BK431 NB431_435⟩, ⟨bkp BK435⟩, ⟨hs_ HB⟩⟩
   ·rw [if_neg c26] at H
    have c26b0 : (t434 != t430) = false := by simpa using c26
    (try (have c26b1 : decide (t434 = t430) = true := by simpa using c26))
    (try (have c26b2 : (t434 == t430) = true := by simpa using c26))
    clear c26
    (first | rw [c26b0] | (simp only [i64_w, i32_w]; rw [c26b0]) | skip)
    by_cases c27 : (!(t432 == t428) || (!(t433 == t429))) = true
    ·rw [if_pos c27] at H
     have c27b0 : (!(t432 == t428) || (!(t433 == t429))) = true := c27
     clear c27
     have H' := Aside0.mk H
     clear H
     have hnb28 := NB435_426.out
     have hnc28 := NB426_435.out
     have hnb29 := NB435_427.out
     have hnc29 := NB427_435.out
     have hnb30 := NB435_431.out
     have hnc30 := NB431_435.out
     obtain ⟨hcz31_0, hcz31_1, hfz31_0, hfz31_1⟩ := cz2 BK435
     have hnb32 := NB431_426.out
     have hnc32 := NB426_431.out
     have hnb33 := NB431_427.out
     have hnc33 := NB427_431.out
     obtain ⟨hcz34_0, hcz34_1, hfz34_0, hfz34_1⟩ := cz2 BK431
     go_wp2
     go_meet
     case rel => exact ⟨_, (true), (by first | rfl | (simp; done) | (simp [*]; done)), H', ⟨by first | omega | exact Nat.le_refl _⟩, ⟨bk1 BK426 NB426_435⟩, ⟨bk1 BK427 NB427_435⟩, ⟨bk1 BK431 NB431_435⟩, ⟨bkp BK435⟩, ⟨hs_ HB⟩⟩
    ·rw [if_neg c27] at H
     have c27b0 : (!(t432 == t428) || (!(t433 == t429))) = false := by simpa using c27
     clear c27
     have H' := Aside0.mk H
     clear H
     have hnb35 := NB435_426.out
     have hnc35 := NB426_435.out
     have hnb36 := NB435_427.out
     have hnc36 := NB427_435.out
     have hnb37 := NB435_431.out
     have hnc37 := NB431_435.out
     obtain ⟨hcz38_0, hcz38_1, hfz38_0, hfz38_1⟩ := cz2 BK435
     have hnb39 := NB431_426.out
     have hnc39 := NB426_431.out
     have hnb40 := NB431_427.out
     have hnc40 := NB427_431.out
     obtain ⟨hcz41_0, hcz41_1, hfz41_0, hfz41_1⟩ := cz2 BK431
     go_wp2
     go_meet
     case rel => exact ⟨_, (!t434), (by first | rfl | (simp; done) | (simp [*]; done)), H', ⟨by first | omega | exact Nat.le_refl _⟩, ⟨bk1 BK426 NB426_435⟩, ⟨bk1 BK427 NB427_435⟩, ⟨bk1 BK431 NB431_435⟩, ⟨bkp BK435⟩, ⟨hs_ HB⟩⟩
  case rest =>
   clear HC6
   try clear c1
   try clear c2
   try clear c2b0
   try clear c2b1
   try clear p2
   try clear c3
   try clear c4
   try clear c6
   try clear c10
   try clear c15
   try clear c16
   try clear c22
   try clear c23
   try clear c24
   try clear c26
   try clear c26b0
   try clear c26b1
   try clear c26b2
   try clear c27
   try clear c27b0
   try clear c28
   try clear c29
   try clear c30
   try clear c31
   try clear c32
   try clear c33
   try clear c35
   try clear c36
   try clear c37
   try clear c39
   try clear c40
   try clear hcz11_0
   try clear hcz11_1
   try clear hcz12_0
   try clear hcz12_1
   try clear hcz17_0
   try clear hcz17_1
   try clear hcz18_0
   try clear hcz18_1
   try clear hcz19_0
   try clear hcz19_1
   try clear hcz25_0
   try clear hcz25_1
   try clear hcz31_0
   try clear hcz31_1
   try clear hcz34_0
   try clear hcz34_1
   try clear hcz38_0
   try clear hcz38_1
   try clear hcz41_0
   try clear hcz41_1
   try clear hfz11_0
   try clear hfz11_1
   try clear hfz12_0
   try clear hfz12_1
   try clear hfz17_0
   try clear hfz17_1
   try clear hfz18_0
   try clear hfz18_1
   try clear hfz19_0
   try clear hfz19_1
   try clear hfz25_0
   try clear hfz25_1
   try clear hfz31_0
   try clear hfz31_1
   try clear hfz34_0
   try clear hfz34_1
   try clear hfz38_0
   try clear hfz38_1
   try clear hfz41_0
   try clear hfz41_1
   obtain ⟨kq, x42_5, rfl, HA, HJ5, BK426, BK427, BK431, BK435, HB⟩ := hcut
   cases kq with
   | zero => exact absurd HA.out (by simp [laws_FnSpotSquare.j0])
   | succ kj5 =>
    have H := HA.out
    clear HA
    simp only [laws_FnSpotSquare.j0] at H
    by_cases c42 : x42_5 = true
    ·subst c42
     have H1 : (if (t434 == t430) = true then (some (t432 == t428 && (t433 == t429))) else (some false)) = some r := by rw [if_pos rfl] at H; exact H
     clear H
     have H := H1
     clear H1
     by_cases c43 : (t434 == t430) = true
     ·rw [if_pos c43] at H
      have c43b0 : (t434 == t430) = true := c43
      (try (have c43b1 : decide (t434 = t430) = true := by simpa using c43))
      (try (have c43b2 : (t434 == t430) = true := by simpa using c43))
      clear c43
      obtain rfl := Option.some.inj H
      have hnb44 := NB435_426.out
      have hnc44 := NB426_435.out
      have hnb45 := NB435_427.out
      have hnc45 := NB427_435.out
      have hnb46 := NB435_431.out
      have hnc46 := NB431_435.out
      obtain ⟨hcz47_0, hcz47_1, hfz47_0, hfz47_1⟩ := cz2 BK435
      have hnb48 := NB431_426.out
      have hnc48 := NB426_431.out
      have hnb49 := NB431_427.out
      have hnc49 := NB427_431.out
      obtain ⟨hcz50_0, hcz50_1, hfz50_0, hfz50_1⟩ := cz2 BK431
      go_wp2
      go_ret
      exact ⟨by first | rfl | (simp [errW_none, errW_some] <;> rfl) | (simp [*, errW_none, errW_some] <;> rfl), hs_ HB⟩
     ·rw [if_neg c43] at H
      have c43b0 : (t434 == t430) = false := by simpa using c43
      (try (have c43b1 : decide (t434 = t430) = false := by simpa using c43))
      (try (have c43b2 : (t434 == t430) = false := by simpa using c43))
      (try (have c43b3 : ¬ (t434 = t430) := by simpa using c43))
      clear c43
      obtain rfl := Option.some.inj H
      go_wp2
      go_ret
      exact ⟨by first | rfl | (simp [errW_none, errW_some] <;> rfl) | (simp [*, errW_none, errW_some] <;> rfl), hs_ HB⟩
    ·replace c42 := Bool.eq_false_iff.mpr c42
     subst c42
     have H1 : ((impl_SpotSquare.f kj5 t424 t425 t422 t423).bind fun bt436 => (if bt436.2.2 = true then (if (bt436.1 == t432 && (bt436.2.1 == t433)) = true then (if t432 ≥ 0 then (if t433 ≤ 1000000000 then ((impl_SpotSame.f t422 t423 t424 t425).bind fun t440 => (if t440 = true then (some (t432 == 0 && (t433 == 0))) else (some true))) else (some false)) else (some false)) else (some false)) else (some false))) = some r := by rw [if_neg (show ¬ (false = true) by decide)] at H; exact H
     clear H
     have H := H1
     clear H1
     replace H := Option.bind_eq_some_iff.mp H
     obtain ⟨⟨t436, t437, t438⟩, A510, H⟩ := H
     replace H : (if t438 = true then (if (t436 == t432 && (t437 == t433)) = true then (if t432 ≥ 0 then (if t433 ≤ 1000000000 then ((impl_SpotSame.f t422 t423 t424 t425).bind fun t440 => (if t440 = true then (some (t432 == 0 && (t433 == 0))) else (some true))) else (some false)) else (some false)) else (some false)) else (some false)) = some r := H
     have A51 := Aside0.mk A510
     clear A510
     by_cases c52 : t438 = true
     ·subst c52
      have H1 : (if (t436 == t432 && (t437 == t433)) = true then (if t432 ≥ 0 then (if t433 ≤ 1000000000 then ((impl_SpotSame.f t422 t423 t424 t425).bind fun t440 => (if t440 = true then (some (t432 == 0 && (t433 == 0))) else (some true))) else (some false)) else (some false)) else (some false)) = some r := by rw [if_pos rfl] at H; exact H
      clear H
      have H := H1
      clear H1
      by_cases c53 : (t436 == t432 && (t437 == t433)) = true
      ·rw [if_pos c53] at H
       have c53b0 : (t436 == t432 && (t437 == t433)) = true := c53
       (try (have c53b1 : decide (t436 = t432 && (t437 == t433)) = true := by simpa using c53))
       (try (have c53b2 : (t436 == t432 && (t437 == t433)) = true := by simpa using c53))
       clear c53
       by_cases c54 : t432 ≥ 0
       ·rw [if_pos c54] at H
        have c54b0 : decide (0 ≤ t432) = true := decide_eq_true c54
        clear c54
        by_cases c55 : t433 ≤ 1000000000
        ·rw [if_pos c55] at H
         have c55b0 : decide (t433 ≤ 1000000000) = true := decide_eq_true c55
         clear c55
         replace H := Option.bind_eq_some_iff.mp H
         obtain ⟨t440, A560, H⟩ := H
         replace H : (if t440 = true then (some (t432 == 0 && (t433 == 0))) else (some true)) = some r := H
         have A56 := Aside0.mk A560
         clear A560
         by_cases c57 : t440 = true
         ·subst c57
          have H1 : (some (t432 == 0 && (t433 == 0))) = some r := by rw [if_pos rfl] at H; exact H
          clear H
          have H := H1
          clear H1
          obtain rfl := Option.some.inj H
          have hnb58 := NB427_426.out
          have hnc58 := NB426_427.out
          have hnb59 := NB427_431.out
          have hnc59 := NB431_427.out
          have hnb60 := NB427_435.out
          have hnc60 := NB435_427.out
          obtain ⟨hcz61_0, hcz61_1, hfz61_0, hfz61_1⟩ := cz2 BK427
          have hnb62 := NB426_431.out
          have hnc62 := NB431_426.out
          have hnb63 := NB426_435.out
          have hnc63 := NB435_426.out
          obtain ⟨hcz64_0, hcz64_1, hfz64_0, hfz64_1⟩ := cz2 BK426
          go_wp2_with (first | ((with_reducible refine gate_callee (f := 32) rfl ?_); refine gL 54 Try.func32 #[.agg #[.int .i64 t424, .int .i64 t425], .agg #[.int .i64 t422, .int .i64 t423]] ?_; (with_reducible refine (impl_SpotSquare.calls kj5 t424 t425 t422 t423 t436 t437 true _ A51.out).mono ?_); rintro e w65 ⟨rfl, hb⟩; refine ⟨_, rfl, ?_⟩; replace BK426 := bb (bk BK426) hb; replace BK427 := bb (bk BK427) hb; replace BK431 := bb (bk BK431) hb; replace BK435 := bb (bk BK435) hb; replace HB := hbb (hs_ HB) hb; clear hb) | ((with_reducible refine gate_dst (N := 9) rfl ?_); refine bE 9 #[.int .i64 0, .int .i64 0] 42 ?_; intro gb439 hg w66 hbox hb; have BK439 := Aside0.mk (hbox); have GE439 := gw hg (hs_ HB); have GW439 := GE439; have NB426_439 := nl hg (bk BK426); have NB439_426 := ng hg (bk BK426); have NB427_439 := nl hg (bk BK427); have NB439_427 := ng hg (bk BK427); have NB431_439 := nl hg (bk BK431); have NB439_431 := ng hg (bk BK431); have NB435_439 := nl hg (bk BK435); have NB439_435 := ng hg (bk BK435); replace BK426 := bb (bk BK426) hb; replace BK427 := bb (bk BK427) hb; replace BK431 := bb (bk BK431) hb; replace BK435 := bb (bk BK435) hb; replace HB := hbb (hs_ HB) hb; clear hb hbox hg; have hnb67 := NB439_426.out; have hnc67 := NB426_439.out; have hnb68 := NB439_427.out; have hnc68 := NB427_439.out; have hnb69 := NB439_431.out; have hnc69 := NB431_439.out; have hnb70 := NB439_435.out; have hnc70 := NB435_439.out; obtain ⟨hcz71_0, hcz71_1, hfz71_0, hfz71_1⟩ := cz2 BK439; have hnb72 := NB435_431.out; have hnc72 := NB431_435.out; obtain ⟨hcz73_0, hcz73_1, hfz73_0, hfz73_1⟩ := cz2 BK435; obtain ⟨hcz74_0, hcz74_1, hfz74_0, hfz74_1⟩ := cz2 BK426; obtain ⟨hcz75_0, hcz75_1, hfz75_0, hfz75_1⟩ := cz2 BK427) | (go_at_call 24; (with_reducible refine (impl_SpotSame.calls t422 t423 t424 t425 true _ A56.out).mono ?_); rintro e w76 ⟨rfl, hb⟩; replace BK426 := bb (bk1 BK426 NB426_439) hb; replace BK427 := bb (bk1 BK427 NB427_439) hb; replace BK431 := bb (bk1 BK431 NB431_439) hb; replace BK435 := bb (bk1 BK435 NB435_439) hb; replace BK439 := bb (o := .cells #[.int .i64 t436, .int .i64 t437] 42 (0, 0)) (bkp BK439) hb; replace HB := hbb (hs_ HB) hb; clear hb; obtain ⟨hcz77_0, hcz77_1, hfz77_0, hfz77_1⟩ := cz2 BK435))
          go_ret
          exact ⟨by first | rfl | (simp [errW_none, errW_some] <;> rfl) | (simp [*, errW_none, errW_some] <;> rfl), hs_ HB⟩
         ·replace c57 := Bool.eq_false_iff.mpr c57
          subst c57
          have H1 : (some true) = some r := by rw [if_neg (show ¬ (false = true) by decide)] at H; exact H
          clear H
          have H := H1
          clear H1
          obtain rfl := Option.some.inj H
          have hnb78 := NB427_426.out
          have hnc78 := NB426_427.out
          have hnb79 := NB427_431.out
          have hnc79 := NB431_427.out
          have hnb80 := NB427_435.out
          have hnc80 := NB435_427.out
          obtain ⟨hcz81_0, hcz81_1, hfz81_0, hfz81_1⟩ := cz2 BK427
          have hnb82 := NB426_431.out
          have hnc82 := NB431_426.out
          have hnb83 := NB426_435.out
          have hnc83 := NB435_426.out
          obtain ⟨hcz84_0, hcz84_1, hfz84_0, hfz84_1⟩ := cz2 BK426
          go_wp2_with (first | ((with_reducible refine gate_callee (f := 32) rfl ?_); refine gL 54 Try.func32 #[.agg #[.int .i64 t424, .int .i64 t425], .agg #[.int .i64 t422, .int .i64 t423]] ?_; (with_reducible refine (impl_SpotSquare.calls kj5 t424 t425 t422 t423 t436 t437 true _ A51.out).mono ?_); rintro e w85 ⟨rfl, hb⟩; refine ⟨_, rfl, ?_⟩; replace BK426 := bb (bk BK426) hb; replace BK427 := bb (bk BK427) hb; replace BK431 := bb (bk BK431) hb; replace BK435 := bb (bk BK435) hb; replace HB := hbb (hs_ HB) hb; clear hb) | ((with_reducible refine gate_dst (N := 9) rfl ?_); refine bE 9 #[.int .i64 0, .int .i64 0] 42 ?_; intro gb439 hg w86 hbox hb; have BK439 := Aside0.mk (hbox); have GE439 := gw hg (hs_ HB); have GW439 := GE439; have NB426_439 := nl hg (bk BK426); have NB439_426 := ng hg (bk BK426); have NB427_439 := nl hg (bk BK427); have NB439_427 := ng hg (bk BK427); have NB431_439 := nl hg (bk BK431); have NB439_431 := ng hg (bk BK431); have NB435_439 := nl hg (bk BK435); have NB439_435 := ng hg (bk BK435); replace BK426 := bb (bk BK426) hb; replace BK427 := bb (bk BK427) hb; replace BK431 := bb (bk BK431) hb; replace BK435 := bb (bk BK435) hb; replace HB := hbb (hs_ HB) hb; clear hb hbox hg; have hnb87 := NB439_426.out; have hnc87 := NB426_439.out; have hnb88 := NB439_427.out; have hnc88 := NB427_439.out; have hnb89 := NB439_431.out; have hnc89 := NB431_439.out; have hnb90 := NB439_435.out; have hnc90 := NB435_439.out; obtain ⟨hcz91_0, hcz91_1, hfz91_0, hfz91_1⟩ := cz2 BK439; have hnb92 := NB435_431.out; have hnc92 := NB431_435.out; obtain ⟨hcz93_0, hcz93_1, hfz93_0, hfz93_1⟩ := cz2 BK435; obtain ⟨hcz94_0, hcz94_1, hfz94_0, hfz94_1⟩ := cz2 BK426; obtain ⟨hcz95_0, hcz95_1, hfz95_0, hfz95_1⟩ := cz2 BK427) | (go_at_call 24; (with_reducible refine (impl_SpotSame.calls t422 t423 t424 t425 false _ A56.out).mono ?_); rintro e w96 ⟨rfl, hb⟩; replace BK426 := bb (bk1 BK426 NB426_439) hb; replace BK427 := bb (bk1 BK427 NB427_439) hb; replace BK431 := bb (bk1 BK431 NB431_439) hb; replace BK435 := bb (bk1 BK435 NB435_439) hb; replace BK439 := bb (o := .cells #[.int .i64 t436, .int .i64 t437] 42 (0, 0)) (bkp BK439) hb; replace HB := hbb (hs_ HB) hb; clear hb))
          go_ret
          exact ⟨by first | rfl | (simp [errW_none, errW_some] <;> rfl) | (simp [*, errW_none, errW_some] <;> rfl), hs_ HB⟩
        ·rw [if_neg c55] at H
         have c55b0 : decide (t433 ≤ 1000000000) = false := decide_eq_false c55
         clear c55
         obtain rfl := Option.some.inj H
         have hnb97 := NB427_426.out
         have hnc97 := NB426_427.out
         have hnb98 := NB427_431.out
         have hnc98 := NB431_427.out
         have hnb99 := NB427_435.out
         have hnc99 := NB435_427.out
         obtain ⟨hcz100_0, hcz100_1, hfz100_0, hfz100_1⟩ := cz2 BK427
         have hnb101 := NB426_431.out
         have hnc101 := NB431_426.out
         have hnb102 := NB426_435.out
         have hnc102 := NB435_426.out
         obtain ⟨hcz103_0, hcz103_1, hfz103_0, hfz103_1⟩ := cz2 BK426
         go_wp2_with (first | ((with_reducible refine gate_callee (f := 32) rfl ?_); refine gL 54 Try.func32 #[.agg #[.int .i64 t424, .int .i64 t425], .agg #[.int .i64 t422, .int .i64 t423]] ?_; (with_reducible refine (impl_SpotSquare.calls kj5 t424 t425 t422 t423 t436 t437 true _ A51.out).mono ?_); rintro e w104 ⟨rfl, hb⟩; refine ⟨_, rfl, ?_⟩; replace BK426 := bb (bk BK426) hb; replace BK427 := bb (bk BK427) hb; replace BK431 := bb (bk BK431) hb; replace BK435 := bb (bk BK435) hb; replace HB := hbb (hs_ HB) hb; clear hb) | ((with_reducible refine gate_dst (N := 9) rfl ?_); refine bE 9 #[.int .i64 0, .int .i64 0] 42 ?_; intro gb439 hg w105 hbox hb; have BK439 := Aside0.mk (hbox); have GE439 := gw hg (hs_ HB); have GW439 := GE439; have NB426_439 := nl hg (bk BK426); have NB439_426 := ng hg (bk BK426); have NB427_439 := nl hg (bk BK427); have NB439_427 := ng hg (bk BK427); have NB431_439 := nl hg (bk BK431); have NB439_431 := ng hg (bk BK431); have NB435_439 := nl hg (bk BK435); have NB439_435 := ng hg (bk BK435); replace BK426 := bb (bk BK426) hb; replace BK427 := bb (bk BK427) hb; replace BK431 := bb (bk BK431) hb; replace BK435 := bb (bk BK435) hb; replace HB := hbb (hs_ HB) hb; clear hb hbox hg; have hnb106 := NB439_426.out; have hnc106 := NB426_439.out; have hnb107 := NB439_427.out; have hnc107 := NB427_439.out; have hnb108 := NB439_431.out; have hnc108 := NB431_439.out; have hnb109 := NB439_435.out; have hnc109 := NB435_439.out; obtain ⟨hcz110_0, hcz110_1, hfz110_0, hfz110_1⟩ := cz2 BK439; have hnb111 := NB435_431.out; have hnc111 := NB431_435.out; obtain ⟨hcz112_0, hcz112_1, hfz112_0, hfz112_1⟩ := cz2 BK435))
         go_ret
         exact ⟨by first | rfl | (simp [errW_none, errW_some] <;> rfl) | (simp [*, errW_none, errW_some] <;> rfl), hs_ HB⟩
       ·rw [if_neg c54] at H
        have c54b0 : decide (0 ≤ t432) = false := decide_eq_false c54
        clear c54
        obtain rfl := Option.some.inj H
        have hnb113 := NB427_426.out
        have hnc113 := NB426_427.out
        have hnb114 := NB427_431.out
        have hnc114 := NB431_427.out
        have hnb115 := NB427_435.out
        have hnc115 := NB435_427.out
        obtain ⟨hcz116_0, hcz116_1, hfz116_0, hfz116_1⟩ := cz2 BK427
        have hnb117 := NB426_431.out
        have hnc117 := NB431_426.out
        have hnb118 := NB426_435.out
        have hnc118 := NB435_426.out
        obtain ⟨hcz119_0, hcz119_1, hfz119_0, hfz119_1⟩ := cz2 BK426
        go_wp2_with (first | ((with_reducible refine gate_callee (f := 32) rfl ?_); refine gL 54 Try.func32 #[.agg #[.int .i64 t424, .int .i64 t425], .agg #[.int .i64 t422, .int .i64 t423]] ?_; (with_reducible refine (impl_SpotSquare.calls kj5 t424 t425 t422 t423 t436 t437 true _ A51.out).mono ?_); rintro e w120 ⟨rfl, hb⟩; refine ⟨_, rfl, ?_⟩; replace BK426 := bb (bk BK426) hb; replace BK427 := bb (bk BK427) hb; replace BK431 := bb (bk BK431) hb; replace BK435 := bb (bk BK435) hb; replace HB := hbb (hs_ HB) hb; clear hb) | ((with_reducible refine gate_dst (N := 9) rfl ?_); refine bE 9 #[.int .i64 0, .int .i64 0] 42 ?_; intro gb439 hg w121 hbox hb; have BK439 := Aside0.mk (hbox); have GE439 := gw hg (hs_ HB); have GW439 := GE439; have NB426_439 := nl hg (bk BK426); have NB439_426 := ng hg (bk BK426); have NB427_439 := nl hg (bk BK427); have NB439_427 := ng hg (bk BK427); have NB431_439 := nl hg (bk BK431); have NB439_431 := ng hg (bk BK431); have NB435_439 := nl hg (bk BK435); have NB439_435 := ng hg (bk BK435); replace BK426 := bb (bk BK426) hb; replace BK427 := bb (bk BK427) hb; replace BK431 := bb (bk BK431) hb; replace BK435 := bb (bk BK435) hb; replace HB := hbb (hs_ HB) hb; clear hb hbox hg; have hnb122 := NB439_426.out; have hnc122 := NB426_439.out; have hnb123 := NB439_427.out; have hnc123 := NB427_439.out; have hnb124 := NB439_431.out; have hnc124 := NB431_439.out; have hnb125 := NB439_435.out; have hnc125 := NB435_439.out; obtain ⟨hcz126_0, hcz126_1, hfz126_0, hfz126_1⟩ := cz2 BK439; have hnb127 := NB435_431.out; have hnc127 := NB431_435.out; obtain ⟨hcz128_0, hcz128_1, hfz128_0, hfz128_1⟩ := cz2 BK435))
        go_ret
        exact ⟨by first | rfl | (simp [errW_none, errW_some] <;> rfl) | (simp [*, errW_none, errW_some] <;> rfl), hs_ HB⟩
      ·rw [if_neg c53] at H
       have c53b0 : (t436 == t432 && (t437 == t433)) = false := by simpa using c53
       (try (have c53b1 : decide (t436 = t432 && (t437 == t433)) = false := by simpa using c53))
       (try (have c53b2 : (t436 == t432 && (t437 == t433)) = false := by simpa using c53))
       (try (have c53b3 : ¬ (t436 = t432 && (t437 == t433)) := by simpa using c53))
       clear c53
       obtain rfl := Option.some.inj H
       have hnb129 := NB427_426.out
       have hnc129 := NB426_427.out
       have hnb130 := NB427_431.out
       have hnc130 := NB431_427.out
       have hnb131 := NB427_435.out
       have hnc131 := NB435_427.out
       obtain ⟨hcz132_0, hcz132_1, hfz132_0, hfz132_1⟩ := cz2 BK427
       have hnb133 := NB426_431.out
       have hnc133 := NB431_426.out
       have hnb134 := NB426_435.out
       have hnc134 := NB435_426.out
       obtain ⟨hcz135_0, hcz135_1, hfz135_0, hfz135_1⟩ := cz2 BK426
       go_wp2_with (first | ((with_reducible refine gate_callee (f := 32) rfl ?_); refine gL 54 Try.func32 #[.agg #[.int .i64 t424, .int .i64 t425], .agg #[.int .i64 t422, .int .i64 t423]] ?_; (with_reducible refine (impl_SpotSquare.calls kj5 t424 t425 t422 t423 t436 t437 true _ A51.out).mono ?_); rintro e w136 ⟨rfl, hb⟩; refine ⟨_, rfl, ?_⟩; replace BK426 := bb (bk BK426) hb; replace BK427 := bb (bk BK427) hb; replace BK431 := bb (bk BK431) hb; replace BK435 := bb (bk BK435) hb; replace HB := hbb (hs_ HB) hb; clear hb) | ((with_reducible refine gate_dst (N := 9) rfl ?_); refine bE 9 #[.int .i64 0, .int .i64 0] 42 ?_; intro gb439 hg w137 hbox hb; have BK439 := Aside0.mk (hbox); have GE439 := gw hg (hs_ HB); have GW439 := GE439; have NB426_439 := nl hg (bk BK426); have NB439_426 := ng hg (bk BK426); have NB427_439 := nl hg (bk BK427); have NB439_427 := ng hg (bk BK427); have NB431_439 := nl hg (bk BK431); have NB439_431 := ng hg (bk BK431); have NB435_439 := nl hg (bk BK435); have NB439_435 := ng hg (bk BK435); replace BK426 := bb (bk BK426) hb; replace BK427 := bb (bk BK427) hb; replace BK431 := bb (bk BK431) hb; replace BK435 := bb (bk BK435) hb; replace HB := hbb (hs_ HB) hb; clear hb hbox hg; have hnb138 := NB439_426.out; have hnc138 := NB426_439.out; have hnb139 := NB439_427.out; have hnc139 := NB427_439.out; have hnb140 := NB439_431.out; have hnc140 := NB431_439.out; have hnb141 := NB439_435.out; have hnc141 := NB435_439.out; obtain ⟨hcz142_0, hcz142_1, hfz142_0, hfz142_1⟩ := cz2 BK439; have hnb143 := NB435_431.out; have hnc143 := NB431_435.out; obtain ⟨hcz144_0, hcz144_1, hfz144_0, hfz144_1⟩ := cz2 BK435))
       go_ret
       exact ⟨by first | rfl | (simp [errW_none, errW_some] <;> rfl) | (simp [*, errW_none, errW_some] <;> rfl), hs_ HB⟩
     ·replace c52 := Bool.eq_false_iff.mpr c52
      subst c52
      have H1 : (some false) = some r := by rw [if_neg (show ¬ (false = true) by decide)] at H; exact H
      clear H
      have H := H1
      clear H1
      obtain rfl := Option.some.inj H
      have hnb145 := NB427_426.out
      have hnc145 := NB426_427.out
      have hnb146 := NB427_431.out
      have hnc146 := NB431_427.out
      have hnb147 := NB427_435.out
      have hnc147 := NB435_427.out
      obtain ⟨hcz148_0, hcz148_1, hfz148_0, hfz148_1⟩ := cz2 BK427
      have hnb149 := NB426_431.out
      have hnc149 := NB431_426.out
      have hnb150 := NB426_435.out
      have hnc150 := NB435_426.out
      obtain ⟨hcz151_0, hcz151_1, hfz151_0, hfz151_1⟩ := cz2 BK426
      go_wp2_with (first | ((with_reducible refine gate_callee (f := 32) rfl ?_); refine gL 54 Try.func32 #[.agg #[.int .i64 t424, .int .i64 t425], .agg #[.int .i64 t422, .int .i64 t423]] ?_; (with_reducible refine (impl_SpotSquare.calls kj5 t424 t425 t422 t423 t436 t437 false _ A51.out).mono ?_); rintro e w152 ⟨rfl, hb⟩; refine ⟨_, rfl, ?_⟩; replace BK426 := bb (bk BK426) hb; replace BK427 := bb (bk BK427) hb; replace BK431 := bb (bk BK431) hb; replace BK435 := bb (bk BK435) hb; replace HB := hbb (hs_ HB) hb; clear hb) | ((with_reducible refine gate_dst (N := 9) rfl ?_); refine bE 9 #[.int .i64 0, .int .i64 0] 42 ?_; intro gb439 hg w153 hbox hb; have BK439 := Aside0.mk (hbox); have GE439 := gw hg (hs_ HB); have GW439 := GE439; have NB426_439 := nl hg (bk BK426); have NB439_426 := ng hg (bk BK426); have NB427_439 := nl hg (bk BK427); have NB439_427 := ng hg (bk BK427); have NB431_439 := nl hg (bk BK431); have NB439_431 := ng hg (bk BK431); have NB435_439 := nl hg (bk BK435); have NB439_435 := ng hg (bk BK435); replace BK426 := bb (bk BK426) hb; replace BK427 := bb (bk BK427) hb; replace BK431 := bb (bk BK431) hb; replace BK435 := bb (bk BK435) hb; replace HB := hbb (hs_ HB) hb; clear hb hbox hg; have hnb154 := NB439_426.out; have hnc154 := NB426_439.out; have hnb155 := NB439_427.out; have hnc155 := NB427_439.out; have hnb156 := NB439_431.out; have hnc156 := NB431_439.out; have hnb157 := NB439_435.out; have hnc157 := NB435_439.out; obtain ⟨hcz158_0, hcz158_1, hfz158_0, hfz158_1⟩ := cz2 BK439))
      go_ret
      exact ⟨by first | rfl | (simp [errW_none, errW_some] <;> rfl) | (simp [*, errW_none, errW_some] <;> rfl), hs_ HB⟩


theorem drawSpotSquare_tells {l : List Int} (hl : Bytes l) {k : Nat} (hk : 20 ≤ k) : ∃ pu pa qu qa, spec_DrawSpotSquare.f k l = some (pu, pa, qu, qa) := by
  unfold spec_DrawSpotSquare.f
  obtain ⟨b, h1, h2, h3⟩ := open_tells hl
  rw [h1]; simp only [Option.bind_some]
  obtain ⟨pu, pa, qu, qa, p, q1, q2, q3⟩ := spots_tells h2 h3 (show (0 : Int) ≤ 0 by omega) (by omega) hk
  rw [q1]; simp only [Option.bind_some]
  exact ⟨_, _, _, _, rfl⟩
theorem squareR_in {pu pa qu qa : Int} (h : (Up pu ∧ Ar pa) ∧ (Up qu ∧ Ar qa)) : squareR pu pa qu qa = ((squareM pu pa qu qa).1, (squareM pu pa qu qa).2, true) := if_pos h
theorem squareR_out {pu pa qu qa : Int} (h : ¬ ((Up pu ∧ Ar pa) ∧ (Up qu ∧ Ar qa))) : squareR pu pa qu qa = (0, 0, false) := if_neg h
theorem FnSpotSquare_pure {l0 : List Int} (hl : Bytes l0) {k : Nat} (hk : 300 ≤ k) : laws_FnSpotSquare.f (k + 1) l0 = some true := by
  unfold laws_FnSpotSquare.f
  by_cases h : (l0.length : Int) > 1048576
  · rw [if_pos h]
  rw [if_neg h]
  obtain ⟨pu, pa, qu, qa, hd⟩ := drawSpotSquare_tells hl (k := k + 1) (by omega)
  obtain ⟨i1, i2⟩ := SpotSquare_is pu pa qu qa (k := k + 1) (by omega)
  rw [hd]; simp only [Option.bind_some]
  rw [i1, i2]
  by_cases hin : (Up pu ∧ Ar pa) ∧ (Up qu ∧ Ar qa)
  · rw [squareR_in hin]
    simp only [Option.bind_some, bne_self_eq_false, beq_self_eq_true, Bool.not_true, Bool.not_false, Bool.or_false, Bool.or_self, Bool.and_self, Bool.false_eq_true, if_false, if_true]
    rw [laws_FnSpotSquare.j0]
    simp only [Bool.false_eq_true, if_false]
    have us := (square_parts hin.1.1 hin.2.1 pa qa).2.2
    rw [(SpotSquare_is qu qa pu pa (by omega)).1, squareR_in ⟨hin.2, hin.1⟩, square_sym pu pa qu qa, (SpotSame_is pu pa qu qa).1]
    have o1 : Okay pu pa := hin.1
    have o2 : Okay qu qa := hin.2
    simp only [Option.bind_some, if_true, beq_self_eq_true, Bool.and_self, ge_iff_le, us.1, us.2.2, o1, o2, and_self, true_and]
    by_cases s : Same pu pa qu qa
    · simp [s, square_same s]
    · simp [s]
  · rw [squareR_out hin]
    simp [laws_FnSpotSquare.j0]
theorem FnSpotSquare_true (A0 : Option Addr) (c0 : Nat) (l0 : List Int) (w : World) (hr0 : Kd.C (Kd.int .u8) w A0 l0.length l0) (hc0 : l0.length ≤ c0) (hw0 : ∀ x ∈ l0, (Lit.int .u8 x).wf = true) :
    Calls Try.prog 6 #[.slice A0 l0.length c0] w fun e w' => e = .returned (.bool true) ∧ Below w.heap.size w w' :=
  laws_FnSpotSquare.calls 301 A0 c0 l0 true w hr0 hc0 (FnSpotSquare_pure (bytes_of hw0) (by omega))

end Go.Proofs.Ytmcippkpgmehdaa.M
