import Derived.Test.YtmcippkpgmehdaaM0
import Derived.Test.YtmcippkpgmehdaaNa
import Derived.Test.YtmcippkpgmehdaaNh
import Derived.Test.YtmcippkpgmehdaaNi
namespace Go.Proofs.Ytmcippkpgmehdaa.M
open Go.RowKit Go.Proofs.YtmcippkpgmehdaaW.PrintWords Go.Proofs.YtmcippkpgmehdaaW.PrintLast Go.Proofs.YtmcippkpgmehdaaW.PrintMore
attribute [local go_sem] max2_int min2_int max_two min_two max_three min_three max_four min_four
attribute [local go_sem high] eqA42 eqA29 eqA24
attribute [local go_sem] fld42_0 fld42_1 fld29_0 fld29_1 fld24_0 fld24_1 fld38_0 fld38_1 fld88_0 fld88_1 fld88_2 fld88_3 fld88_4
set_option linter.unusedVariables false
set_option linter.unusedSimpArgs false

/-! ### spec_SureLess: function 56 -/
def spec_SureLess.j0 : Nat → Bool → Int → Int → Int → Int → Option (Int)
 | 0, _, _, _, _, _ => none
 | k + 1, x5, x225000, x225001, x226000, x226001 => if x5 = true then (some 3) else (if x225001 < x226000 then (some 1) else (if x225000 ≥ x226001 then (some 2) else (some 3)))
def spec_SureLess.f (k : Nat) (a0_0 : Int) (a0_1 : Int) (a1_0 : Int) (a1_1 : Int) : Option (Int) := (spec_SpanOk.f a0_0 a0_1).bind fun t226 => (if t226 = true then ((spec_SpanOk.f a1_0 a1_1).bind fun t227 => (spec_SureLess.j0 k (!t227) a0_0 a0_1 a1_0 a1_1)) else (spec_SureLess.j0 k true a0_0 a0_1 a1_0 a1_1))
set_option maxHeartbeats 8000000 in
set_option maxRecDepth 100000 in
theorem spec_SureLess.calls (k : Nat) (a0_0 : Int) (a0_1 : Int) (a1_0 : Int) (a1_1 : Int) (r : Int) (w : World) (h : spec_SureLess.f k a0_0 a0_1 a1_0 a1_1 = some r) :
  Calls Try.prog 56 #[.agg #[.int .i64 a0_0, .int .i64 a0_1], .agg #[.int .i64 a1_0, .int .i64 a1_1]] w fun e w' => e = .returned (.int .i64 r) ∧ Below w.heap.size w w' := by
 have hu42 := Try.underlying42
 have HB := Aside0.mk (Below.refl w.heap.size w)
 have H : ((spec_SpanOk.f a0_0 a0_1).bind fun t226 => (if t226 = true then ((spec_SpanOk.f a1_0 a1_1).bind fun t227 => (spec_SureLess.j0 k (!t227) a0_0 a0_1 a1_0 a1_1)) else (spec_SureLess.j0 k true a0_0 a0_1 a1_0 a1_1))) = some r := h
 clear h
 have HC3 := Aside0.mk H
 clear H
 go_enter Try.func56, Try.ntmps56
 go_upto_region 1 with (first | ((with_reducible refine gate_dst (N := 2) rfl ?_); refine bE 2 #[.int .i64 a0_0, .int .i64 a0_1] 42 ?_; intro gb224 hg w4 hbox hb; have BK224 := Aside0.mk (hbox); have GE224 := gw hg (hz0 HB); replace HB := hbb (hz0 HB) hb; clear hb hbox hg) | ((with_reducible refine gate_dst (N := 3) rfl ?_); refine bE 3 #[.int .i64 a1_0, .int .i64 a1_1] 42 ?_; intro gb225 hg w5 hbox hb; have BK225 := Aside0.mk (hbox); have GE225 := gw hg (hzs HB); have NB224_225 := nl hg (bk BK224); have NB225_224 := ng hg (bk BK224); replace BK224 := bb (bk BK224) hb; replace HB := hbb (hzs HB) hb; clear hb hbox hg))
 (try simp only [Act.put, List.setIfInBounds_toArray, List.set_cons_zero, List.set_cons_succ])
 go_cut [5] (fun v5 wc => ∃ (kq : Nat) (x5_2 : Bool), v5 = .bool x5_2 ∧ Aside0 (spec_SureLess.j0 kq x5_2 a0_0 a0_1 a1_0 a1_1 = some r) ∧ Aside0 (kq ≤ k) ∧ Aside0 (wc.heap[gb224]? = some (.cells #[.int .i64 a0_0, .int .i64 a0_1] 42 (0, 0))) ∧ Aside0 (wc.heap[gb225]? = some (.cells #[.int .i64 a1_0, .int .i64 a1_1] 42 (0, 0))) ∧ Aside0 (Below w.heap.size w wc))
 case first =>
  have H := HC3.out
  clear HC3
  replace H := Option.bind_eq_some_iff.mp H
  obtain ⟨t226, A60, H⟩ := H
  try dsimp only at H
  have A6 := Aside0.mk A60
  clear A60
  by_cases c7 : t226 = true
  ·subst c7
   have H1 : ((spec_SpanOk.f a1_0 a1_1).bind fun t227 => (spec_SureLess.j0 k (!t227) a0_0 a0_1 a1_0 a1_1)) = some r := by rw [if_pos rfl] at H; exact H
   clear H
   have H := H1
   clear H1
   replace H := Option.bind_eq_some_iff.mp H
   obtain ⟨t227, A80, H⟩ := H
   try dsimp only at H
   have A8 := Aside0.mk A80
   clear A80
   have H' := Aside0.mk H
   clear H
   have hnb9 := NB224_225.out
   have hnc9 := NB225_224.out
   obtain ⟨hcz10_0, hcz10_1, hfz10_0, hfz10_1⟩ := cz2 BK224
   go_wp2_with (first | ((with_reducible refine gate_callee (f := 84) rfl ?_); refine gL 7 Try.func84 #[.agg #[.int .i64 a0_0, .int .i64 a0_1]] ?_; (with_reducible refine (spec_SpanOk.calls a0_0 a0_1 true _ A6.out).mono ?_); rintro e w11 ⟨rfl, hb⟩; refine ⟨_, rfl, ?_⟩; replace BK224 := bb (bk BK224) hb; replace BK225 := bb (bk BK225) hb; replace HB := hbb (hzs HB) hb; clear hb; obtain ⟨hcz12_0, hcz12_1, hfz12_0, hfz12_1⟩ := cz2 BK225) | (go_at_call 84; (with_reducible refine (spec_SpanOk.calls a1_0 a1_1 t227 _ A8.out).mono ?_); rintro e w13 ⟨rfl, hb⟩; replace BK224 := bb (bk BK224) hb; replace BK225 := bb (bk BK225) hb; replace HB := hbb (hzs HB) hb; clear hb))
   go_meet
   case rel => exact ⟨_, (!t227), (by first | rfl | (simp; done) | (simp [*]; done)), H', ⟨by first | omega | exact Nat.le_refl _⟩, ⟨bk BK224⟩, ⟨bk BK225⟩, ⟨hzs HB⟩⟩
  ·replace c7 := Bool.eq_false_iff.mpr c7
   subst c7
   have H1 : (spec_SureLess.j0 k true a0_0 a0_1 a1_0 a1_1) = some r := by rw [if_neg (show ¬ (false = true) by decide)] at H; exact H
   clear H
   have H := H1
   clear H1
   have H' := Aside0.mk H
   clear H
   have hnb14 := NB224_225.out
   have hnc14 := NB225_224.out
   obtain ⟨hcz15_0, hcz15_1, hfz15_0, hfz15_1⟩ := cz2 BK224
   go_wp2_with (first | ((with_reducible refine gate_callee (f := 84) rfl ?_); refine gL 7 Try.func84 #[.agg #[.int .i64 a0_0, .int .i64 a0_1]] ?_; (with_reducible refine (spec_SpanOk.calls a0_0 a0_1 false _ A6.out).mono ?_); rintro e w16 ⟨rfl, hb⟩; refine ⟨_, rfl, ?_⟩; replace BK224 := bb (bk BK224) hb; replace BK225 := bb (bk BK225) hb; replace HB := hbb (hzs HB) hb; clear hb))
   go_meet
   case rel => exact ⟨_, (true), (by first | rfl | (simp; done) | (simp [*]; done)), H', ⟨by first | omega | exact Nat.le_refl _⟩, ⟨bk BK224⟩, ⟨bk BK225⟩, ⟨hzs HB⟩⟩
 case rest =>
  clear HC3
  try clear c1
  try clear p2
  try clear c5
  try clear c7
  try clear c8
  try clear c9
  try clear c14
  try clear hcz10_0 hcz10_1
  try clear hcz12_0 hcz12_1
  try clear hcz15_0 hcz15_1
  try clear hfz10_0 hfz10_1
  try clear hfz12_0 hfz12_1
  try clear hfz15_0 hfz15_1
  obtain ⟨kq, x5_2, rfl, HA, HJ2, BK224, BK225, HB⟩ := hcut
  cases kq with
  | zero => exact absurd HA.out (by simp [spec_SureLess.j0])
  | succ kj2 =>
   have H := HA.out
   clear HA
   simp only [spec_SureLess.j0] at H
   by_cases c17 : x5_2 = true
   ·subst c17
    have H1 : (some 3) = some r := by rw [if_pos rfl] at H; exact H
    clear H
    have H := H1
    clear H1
    obtain rfl := Option.some.inj H
    go_wp2
    go_ret
    exact ⟨by first | rfl | (simp [errW_none, errW_some] <;> rfl) | (simp [*, errW_none, errW_some] <;> rfl), hzs HB⟩
   ·replace c17 := Bool.eq_false_iff.mpr c17
    subst c17
    have H1 : (if a0_1 < a1_0 then (some 1) else (if a0_0 ≥ a1_1 then (some 2) else (some 3))) = some r := by rw [if_neg (show ¬ (false = true) by decide)] at H; exact H
    clear H
    have H := H1
    clear H1
    by_cases c18 : a0_1 < a1_0
    ·rw [if_pos c18] at H
     have c18b0 : decide (a0_1 < a1_0) = true := decide_eq_true c18
     clear c18
     obtain rfl := Option.some.inj H
     have hnb19 := NB224_225.out
     have hnc19 := NB225_224.out
     obtain ⟨hcz20_0, hcz20_1, hfz20_0, hfz20_1⟩ := cz2 BK224
     obtain ⟨hcz21_0, hcz21_1, hfz21_0, hfz21_1⟩ := cz2 BK225
     go_wp2
     go_ret
     exact ⟨by first | rfl | (simp [errW_none, errW_some] <;> rfl) | (simp [*, errW_none, errW_some] <;> rfl), hzs HB⟩
    ·rw [if_neg c18] at H
     have c18b0 : decide (a0_1 < a1_0) = false := decide_eq_false c18
     clear c18
     by_cases c22 : a0_0 ≥ a1_1
     ·rw [if_pos c22] at H
      have c22b0 : decide (a1_1 ≤ a0_0) = true := decide_eq_true c22
      clear c22
      obtain rfl := Option.some.inj H
      have hnb23 := NB224_225.out
      have hnc23 := NB225_224.out
      obtain ⟨hcz24_0, hcz24_1, hfz24_0, hfz24_1⟩ := cz2 BK224
      obtain ⟨hcz25_0, hcz25_1, hfz25_0, hfz25_1⟩ := cz2 BK225
      go_wp2
      go_ret
      exact ⟨by first | rfl | (simp [errW_none, errW_some] <;> rfl) | (simp [*, errW_none, errW_some] <;> rfl), hzs HB⟩
     ·rw [if_neg c22] at H
      have c22b0 : decide (a1_1 ≤ a0_0) = false := decide_eq_false c22
      clear c22
      obtain rfl := Option.some.inj H
      have hnb26 := NB224_225.out
      have hnc26 := NB225_224.out
      obtain ⟨hcz27_0, hcz27_1, hfz27_0, hfz27_1⟩ := cz2 BK224
      obtain ⟨hcz28_0, hcz28_1, hfz28_0, hfz28_1⟩ := cz2 BK225
      go_wp2
      go_ret
      exact ⟨by first | rfl | (simp [errW_none, errW_some] <;> rfl) | (simp [*, errW_none, errW_some] <;> rfl), hzs HB⟩


/-! ### spec_SpotNear: function 27 -/
def spec_SpotNear.j0 : Nat → Bool → Int → Int → Int → Int → Int → Int → Int → Int → Option (Int)
 | 0, _, _, _, _, _, _, _, _, _ => none
 | k + 1, x28, x230000, x230001, x231000, x231001, x235000, x235001, x239000, x239001 => if x28 = true then (some 3) else ((spec_SpotSame.f x230000 x230001 x231000 x231001).bind fun t239 => (if t239 = true then (some 2) else ((spec_SureLess.f k x235000 x235001 x239000 x239001).bind fun t240 => (some t240))))
def spec_SpotNear.f (k : Nat) (a0_0 : Int) (a0_1 : Int) (a1_0 : Int) (a1_1 : Int) (a2_0 : Int) (a2_1 : Int) : Option (Int) := (spec_SpotSquare.f k a0_0 a0_1 a1_0 a1_1).bind fun bt231 => ((spec_SpotSquare.f k a0_0 a0_1 a2_0 a2_1).bind fun bt235 => (if bt231.2.2 = true then (spec_SpotNear.j0 k (!bt235.2.2) a1_0 a1_1 a2_0 a2_1 bt231.1 bt231.2.1 bt235.1 bt235.2.1) else (spec_SpotNear.j0 k true a1_0 a1_1 a2_0 a2_1 bt231.1 bt231.2.1 bt235.1 bt235.2.1)))
set_option maxHeartbeats 8000000 in
set_option maxRecDepth 100000 in
theorem spec_SpotNear.calls (k : Nat) (a0_0 : Int) (a0_1 : Int) (a1_0 : Int) (a1_1 : Int) (a2_0 : Int) (a2_1 : Int) (r : Int) (w : World) (h : spec_SpotNear.f k a0_0 a0_1 a1_0 a1_1 a2_0 a2_1 = some r) :
  Calls Try.prog 27 #[.agg #[.int .i64 a0_0, .int .i64 a0_1], .agg #[.int .i64 a1_0, .int .i64 a1_1], .agg #[.int .i64 a2_0, .int .i64 a2_1]] w fun e w' => e = .returned (.int .i64 r) ∧ Below w.heap.size w w' := by
 have hu24 := Try.underlying24
 have hu42 := Try.underlying42
 have HB := Aside0.mk (Below.refl w.heap.size w)
 have H : ((spec_SpotSquare.f k a0_0 a0_1 a1_0 a1_1).bind fun bt231 => ((spec_SpotSquare.f k a0_0 a0_1 a2_0 a2_1).bind fun bt235 => (if bt231.2.2 = true then (spec_SpotNear.j0 k (!bt235.2.2) a1_0 a1_1 a2_0 a2_1 bt231.1 bt231.2.1 bt235.1 bt235.2.1) else (spec_SpotNear.j0 k true a1_0 a1_1 a2_0 a2_1 bt231.1 bt231.2.1 bt235.1 bt235.2.1)))) = some r := h
 clear h
 replace H := Option.bind_eq_some_iff.mp H
 obtain ⟨⟨t231, t232, t233⟩, A40, H⟩ := H
 try dsimp only at H
 have A4 := Aside0.mk A40
 clear A40
 replace H := Option.bind_eq_some_iff.mp H
 obtain ⟨⟨t235, t236, t237⟩, A50, H⟩ := H
 try dsimp only at H
 have A5 := Aside0.mk A50
 clear A50
 have HC6 := Aside0.mk H
 clear H
 go_enter Try.func27, Try.ntmps27
 go_upto_region 3 with (first | ((with_reducible refine gate_dst (N := 3) rfl ?_); refine bE 3 #[.int .i64 a0_0, .int .i64 a0_1] 24 ?_; intro gb228 hg w7 hbox hb; have BK228 := Aside0.mk (hbox); have GE228 := gw hg (hz0 HB); replace HB := hbb (hz0 HB) hb; clear hb hbox hg) | ((with_reducible refine gate_dst (N := 4) rfl ?_); refine bE 4 #[.int .i64 a1_0, .int .i64 a1_1] 24 ?_; intro gb229 hg w8 hbox hb; have BK229 := Aside0.mk (hbox); have GE229 := gw hg (hzs HB); have NB228_229 := nl hg (bk BK228); have NB229_228 := ng hg (bk BK228); replace BK228 := bb (bk BK228) hb; replace HB := hbb (hzs HB) hb; clear hb hbox hg) | ((with_reducible refine gate_dst (N := 5) rfl ?_); refine bE 5 #[.int .i64 a2_0, .int .i64 a2_1] 24 ?_; intro gb230 hg w9 hbox hb; have BK230 := Aside0.mk (hbox); have GE230 := gw hg (hzs HB); have NB228_230 := nl hg (bk BK228); have NB230_228 := ng hg (bk BK228); have NB229_230 := nl hg (bk BK229); have NB230_229 := ng hg (bk BK229); replace BK228 := bb (bk BK228) hb; replace BK229 := bb (bk BK229) hb; replace HB := hbb (hzs HB) hb; clear hb hbox hg; have hnb10 := NB228_229.out; have hnc10 := NB229_228.out; have hnb11 := NB228_230.out; have hnc11 := NB230_228.out; obtain ⟨hcz12_0, hcz12_1, hfz12_0, hfz12_1⟩ := cz2 BK228; have hnb13 := NB229_230.out; have hnc13 := NB230_229.out; obtain ⟨hcz14_0, hcz14_1, hfz14_0, hfz14_1⟩ := cz2 BK229) | ((with_reducible refine gate_callee (f := 31) rfl ?_); refine gL 14 Try.func31 #[.agg #[.int .i64 a0_0, .int .i64 a0_1], .agg #[.int .i64 a1_0, .int .i64 a1_1]] ?_; (with_reducible refine (spec_SpotSquare.calls k a0_0 a0_1 a1_0 a1_1 t231 t232 t233 _ A4.out).mono ?_); rintro e w15 ⟨rfl, hb⟩; refine ⟨_, rfl, ?_⟩; replace BK228 := bb (bk BK228) hb; replace BK229 := bb (bk BK229) hb; replace BK230 := bb (bk BK230) hb; replace HB := hbb (hzs HB) hb; clear hb) | ((with_reducible refine gate_dst (N := 7) rfl ?_); refine bE 7 #[.int .i64 0, .int .i64 0] 42 ?_; intro gb234 hg w16 hbox hb; have BK234 := Aside0.mk (hbox); have GE234 := gw hg (hzs HB); have NB228_234 := nl hg (bk BK228); have NB234_228 := ng hg (bk BK228); have NB229_234 := nl hg (bk BK229); have NB234_229 := ng hg (bk BK229); have NB230_234 := nl hg (bk BK230); have NB234_230 := ng hg (bk BK230); replace BK228 := bb (bk BK228) hb; replace BK229 := bb (bk BK229) hb; replace BK230 := bb (bk BK230) hb; replace HB := hbb (hzs HB) hb; clear hb hbox hg; have hnb17 := NB234_228.out; have hnc17 := NB228_234.out; have hnb18 := NB234_229.out; have hnc18 := NB229_234.out; have hnb19 := NB234_230.out; have hnc19 := NB230_234.out; obtain ⟨hcz20_0, hcz20_1, hfz20_0, hfz20_1⟩ := cz2 BK234; obtain ⟨hcz21_0, hcz21_1, hfz21_0, hfz21_1⟩ := cz2 BK228; obtain ⟨hcz22_0, hcz22_1, hfz22_0, hfz22_1⟩ := cz2 BK230) | ((with_reducible refine gate_callee (f := 31) rfl ?_); refine gL 20 Try.func31 #[.agg #[.int .i64 a0_0, .int .i64 a0_1], .agg #[.int .i64 a2_0, .int .i64 a2_1]] ?_; (with_reducible refine (spec_SpotSquare.calls k a0_0 a0_1 a2_0 a2_1 t235 t236 t237 _ A5.out).mono ?_); rintro e w23 ⟨rfl, hb⟩; refine ⟨_, rfl, ?_⟩; replace BK228 := bb (bk1 BK228 NB228_234) hb; replace BK229 := bb (bk1 BK229 NB229_234) hb; replace BK230 := bb (bk1 BK230 NB230_234) hb; replace BK234 := bb (o := .cells #[.int .i64 t231, .int .i64 t232] 42 (0, 0)) (bkp BK234) hb; replace HB := hbb (hzs HB) hb; clear hb) | ((with_reducible refine gate_dst (N := 9) rfl ?_); refine bE 9 #[.int .i64 0, .int .i64 0] 42 ?_; intro gb238 hg w24 hbox hb; have BK238 := Aside0.mk (hbox); have GE238 := gw hg (hzs HB); have NB228_238 := nl hg (bk BK228); have NB238_228 := ng hg (bk BK228); have NB229_238 := nl hg (bk BK229); have NB238_229 := ng hg (bk BK229); have NB230_238 := nl hg (bk BK230); have NB238_230 := ng hg (bk BK230); have NB234_238 := nl hg (bk BK234); have NB238_234 := ng hg (bk BK234); replace BK228 := bb (bk BK228) hb; replace BK229 := bb (bk BK229) hb; replace BK230 := bb (bk BK230) hb; replace BK234 := bb (bk BK234) hb; replace HB := hbb (hzs HB) hb; clear hb hbox hg; have hnb25 := NB238_228.out; have hnc25 := NB228_238.out; have hnb26 := NB238_229.out; have hnc26 := NB229_238.out; have hnb27 := NB238_230.out; have hnc27 := NB230_238.out; have hnb28 := NB238_234.out; have hnc28 := NB234_238.out; obtain ⟨hcz29_0, hcz29_1, hfz29_0, hfz29_1⟩ := cz2 BK238))
 (try simp only [Act.put, List.setIfInBounds_toArray, List.set_cons_zero, List.set_cons_succ])
 go_cut [28] (fun v28 wc => ∃ (kq : Nat) (x28_5 : Bool), v28 = .bool x28_5 ∧ Aside0 (spec_SpotNear.j0 kq x28_5 a1_0 a1_1 a2_0 a2_1 t231 t232 t235 t236 = some r) ∧ Aside0 (kq ≤ k) ∧ Aside0 (wc.heap[gb228]? = some (.cells #[.int .i64 a0_0, .int .i64 a0_1] 24 (0, 0))) ∧ Aside0 (wc.heap[gb229]? = some (.cells #[.int .i64 a1_0, .int .i64 a1_1] 24 (0, 0))) ∧ Aside0 (wc.heap[gb230]? = some (.cells #[.int .i64 a2_0, .int .i64 a2_1] 24 (0, 0))) ∧ Aside0 (wc.heap[gb234]? = some (.cells #[.int .i64 t231, .int .i64 t232] 42 (0, 0))) ∧ Aside0 (wc.heap[gb238]? = some (.cells #[.int .i64 t235, .int .i64 t236] 42 (0, 0))) ∧ Aside0 (Below w.heap.size w wc))
 case first =>
  have H := HC6.out
  clear HC6
  by_cases c30 : t233 = true
  ·subst c30
   have H1 : (spec_SpotNear.j0 k (!t237) a1_0 a1_1 a2_0 a2_1 t231 t232 t235 t236) = some r := by rw [if_pos rfl] at H; exact H
   clear H
   have H := H1
   clear H1
   have H' := Aside0.mk H
   clear H
   go_wp2
   go_meet
   case rel => exact ⟨_, (!t237), (by first | rfl | (simp; done) | (simp [*]; done)), H', ⟨by first | omega | exact Nat.le_refl _⟩, ⟨bk1 BK228 NB228_238⟩, ⟨bk1 BK229 NB229_238⟩, ⟨bk1 BK230 NB230_238⟩, ⟨bk1 BK234 NB234_238⟩, ⟨bkp BK238⟩, ⟨hzs HB⟩⟩
  ·replace c30 := Bool.eq_false_iff.mpr c30
   subst c30
   have H1 : (spec_SpotNear.j0 k true a1_0 a1_1 a2_0 a2_1 t231 t232 t235 t236) = some r := by rw [if_neg (show ¬ (false = true) by decide)] at H; exact H
   clear H
   have H := H1
   clear H1
   have H' := Aside0.mk H
   clear H
   go_wp2
   go_meet
   case rel => exact ⟨_, (true), (by first | rfl | (simp; done) | (simp [*]; done)), H', ⟨by first | omega | exact Nat.le_refl _⟩, ⟨bk1 BK228 NB228_238⟩, ⟨bk1 BK229 NB229_238⟩, ⟨bk1 BK230 NB230_238⟩, ⟨bk1 BK234 NB234_238⟩, ⟨bkp BK238⟩, ⟨hzs HB⟩⟩
 case rest =>
  clear HC6
  try clear c1
  try clear c2
  try clear p2
  try clear c3
  try clear c10
  try clear c11
  try clear c13
  try clear c17
  try clear c18
  try clear c19
  try clear c25
  try clear c26
  try clear c27
  try clear c28
  try clear c30
  try clear hcz12_0 hcz12_1
  try clear hcz14_0 hcz14_1
  try clear hcz20_0 hcz20_1
  try clear hcz21_0 hcz21_1
  try clear hcz22_0 hcz22_1
  try clear hcz29_0 hcz29_1
  try clear hfz12_0 hfz12_1
  try clear hfz14_0 hfz14_1
  try clear hfz20_0 hfz20_1
  try clear hfz21_0 hfz21_1
  try clear hfz22_0 hfz22_1
  try clear hfz29_0 hfz29_1
  obtain ⟨kq, x28_5, rfl, HA, HJ5, BK228, BK229, BK230, BK234, BK238, HB⟩ := hcut
  cases kq with
  | zero => exact absurd HA.out (by simp [spec_SpotNear.j0])
  | succ kj5 =>
   have H := HA.out
   clear HA
   simp only [spec_SpotNear.j0] at H
   by_cases c31 : x28_5 = true
   ·subst c31
    have H1 : (some 3) = some r := by rw [if_pos rfl] at H; exact H
    clear H
    have H := H1
    clear H1
    obtain rfl := Option.some.inj H
    go_wp2
    go_ret
    exact ⟨by first | rfl | (simp [errW_none, errW_some] <;> rfl) | (simp [*, errW_none, errW_some] <;> rfl), hzs HB⟩
   ·replace c31 := Bool.eq_false_iff.mpr c31
    subst c31
    have H1 : ((spec_SpotSame.f a1_0 a1_1 a2_0 a2_1).bind fun t239 => (if t239 = true then (some 2) else ((spec_SureLess.f kj5 t231 t232 t235 t236).bind fun t240 => (some t240)))) = some r := by rw [if_neg (show ¬ (false = true) by decide)] at H; exact H
    clear H
    have H := H1
    clear H1
    replace H := Option.bind_eq_some_iff.mp H
    obtain ⟨t239, A320, H⟩ := H
    try dsimp only at H
    have A32 := Aside0.mk A320
    clear A320
    by_cases c33 : t239 = true
    ·subst c33
     have H1 : (some 2) = some r := by rw [if_pos rfl] at H; exact H
     clear H
     have H := H1
     clear H1
     obtain rfl := Option.some.inj H
     have hnb34 := NB229_228.out
     have hnc34 := NB228_229.out
     have hnb35 := NB229_230.out
     have hnc35 := NB230_229.out
     have hnb36 := NB229_234.out
     have hnc36 := NB234_229.out
     have hnb37 := NB229_238.out
     have hnc37 := NB238_229.out
     obtain ⟨hcz38_0, hcz38_1, hfz38_0, hfz38_1⟩ := cz2 BK229
     have hnb39 := NB230_228.out
     have hnc39 := NB228_230.out
     have hnb40 := NB230_234.out
     have hnc40 := NB234_230.out
     have hnb41 := NB230_238.out
     have hnc41 := NB238_230.out
     obtain ⟨hcz42_0, hcz42_1, hfz42_0, hfz42_1⟩ := cz2 BK230
     go_wp2_with (first | ((with_reducible refine gate_callee (f := 25) rfl ?_); refine gL 31 Try.func25 #[.agg #[.int .i64 a1_0, .int .i64 a1_1], .agg #[.int .i64 a2_0, .int .i64 a2_1]] ?_; (with_reducible refine (spec_SpotSame.calls a1_0 a1_1 a2_0 a2_1 true _ A32.out).mono ?_); rintro e w43 ⟨rfl, hb⟩; refine ⟨_, rfl, ?_⟩; replace BK228 := bb (bk BK228) hb; replace BK229 := bb (bk BK229) hb; replace BK230 := bb (bk BK230) hb; replace BK234 := bb (bk BK234) hb; replace BK238 := bb (bk BK238) hb; replace HB := hbb (hzs HB) hb; clear hb))
     go_ret
     exact ⟨by first | rfl | (simp [errW_none, errW_some] <;> rfl) | (simp [*, errW_none, errW_some] <;> rfl), hzs HB⟩
    ·replace c33 := Bool.eq_false_iff.mpr c33
     subst c33
     have H1 : ((spec_SureLess.f kj5 t231 t232 t235 t236).bind fun t240 => (some t240)) = some r := by rw [if_neg (show ¬ (false = true) by decide)] at H; exact H
     clear H
     have H := H1
     clear H1
     replace H := Option.bind_eq_some_iff.mp H
     obtain ⟨t240, A440, H⟩ := H
     try dsimp only at H
     have A44 := Aside0.mk A440
     clear A440
     obtain rfl := Option.some.inj H
     have hnb45 := NB229_228.out
     have hnc45 := NB228_229.out
     have hnb46 := NB229_230.out
     have hnc46 := NB230_229.out
     have hnb47 := NB229_234.out
     have hnc47 := NB234_229.out
     have hnb48 := NB229_238.out
     have hnc48 := NB238_229.out
     obtain ⟨hcz49_0, hcz49_1, hfz49_0, hfz49_1⟩ := cz2 BK229
     have hnb50 := NB230_228.out
     have hnc50 := NB228_230.out
     have hnb51 := NB230_234.out
     have hnc51 := NB234_230.out
     have hnb52 := NB230_238.out
     have hnc52 := NB238_230.out
     obtain ⟨hcz53_0, hcz53_1, hfz53_0, hfz53_1⟩ := cz2 BK230
     go_wp2_with (first | ((with_reducible refine gate_callee (f := 25) rfl ?_); refine gL 31 Try.func25 #[.agg #[.int .i64 a1_0, .int .i64 a1_1], .agg #[.int .i64 a2_0, .int .i64 a2_1]] ?_; (with_reducible refine (spec_SpotSame.calls a1_0 a1_1 a2_0 a2_1 false _ A32.out).mono ?_); rintro e w54 ⟨rfl, hb⟩; refine ⟨_, rfl, ?_⟩; replace BK228 := bb (bk BK228) hb; replace BK229 := bb (bk BK229) hb; replace BK230 := bb (bk BK230) hb; replace BK234 := bb (bk BK234) hb; replace BK238 := bb (bk BK238) hb; replace HB := hbb (hzs HB) hb; clear hb; have hnb55 := NB234_228.out; have hnc55 := NB228_234.out; have hnb56 := NB234_238.out; have hnc56 := NB238_234.out; obtain ⟨hcz57_0, hcz57_1, hfz57_0, hfz57_1⟩ := cz2 BK234; have hnb58 := NB238_228.out; have hnc58 := NB228_238.out; obtain ⟨hcz59_0, hcz59_1, hfz59_0, hfz59_1⟩ := cz2 BK238) | ((with_reducible refine gate_callee (f := 56) rfl ?_); refine gL 34 Try.func56 #[.agg #[.int .i64 t231, .int .i64 t232], .agg #[.int .i64 t235, .int .i64 t236]] ?_; (with_reducible refine (spec_SureLess.calls kj5 t231 t232 t235 t236 t240 _ A44.out).mono ?_); rintro e w60 ⟨rfl, hb⟩; refine ⟨_, rfl, ?_⟩; replace BK228 := bb (bk BK228) hb; replace BK229 := bb (bk BK229) hb; replace BK230 := bb (bk BK230) hb; replace BK234 := bb (bk BK234) hb; replace BK238 := bb (bk BK238) hb; replace HB := hbb (hzs HB) hb; clear hb))
     go_ret
     exact ⟨by first | rfl | (simp [errW_none, errW_some] <;> rfl) | (simp [*, errW_none, errW_some] <;> rfl), hzs HB⟩


end Go.Proofs.Ytmcippkpgmehdaa.M
