import Derived.Test.YtmcippkpgmehdaaM0
import Derived.Test.YtmcippkpgmehdaaMa
import Derived.Test.YtmcippkpgmehdaaMi
import Derived.Test.YtmcippkpgmehdaaMj
import Derived.Test.YtmcippkpgmehdaaMo
namespace Go.Proofs.Ytmcippkpgmehdaa.M
open Go.RowKit Go.Proofs.YtmcippkpgmehdaaW.PrintWords Go.Proofs.YtmcippkpgmehdaaW.PrintLast Go.Proofs.YtmcippkpgmehdaaW.PrintMore
attribute [local go_sem] max2_int min2_int max_two min_two max_three min_three max_four min_four
attribute [local go_sem high] eqA42 eqA29 eqA24
attribute [local go_sem] fld42_0 fld42_1 fld29_0 fld29_1 fld24_0 fld24_1 fld38_0 fld38_1 fld88_0 fld88_1 fld88_2 fld88_3 fld88_4
set_option linter.unusedVariables false
set_option linter.unusedSimpArgs false

/-! ### impl_SureLess: function 57 -/
def impl_SureLess.j0 : Nat → Bool → Int → Int → Int → Int → Option (Int)
 | 0, _, _, _, _, _ => none
 | k + 1, x5, x359000, x359001, x360000, x360001 => if x5 = true then (some 3) else (if x359001 < x360000 then (some 1) else (if x359000 ≥ x360001 then (some 2) else (some 3)))
def impl_SureLess.f (k : Nat) (a0_0 : Int) (a0_1 : Int) (a1_0 : Int) (a1_1 : Int) : Option (Int) := (impl_SpanOk.f a0_0 a0_1).bind fun t360 => (if t360 = true then ((impl_SpanOk.f a1_0 a1_1).bind fun t361 => (impl_SureLess.j0 k (!t361) a0_0 a0_1 a1_0 a1_1)) else (impl_SureLess.j0 k true a0_0 a0_1 a1_0 a1_1))
set_option maxHeartbeats 8000000 in
set_option maxRecDepth 100000 in
theorem impl_SureLess.calls (k : Nat) (a0_0 : Int) (a0_1 : Int) (a1_0 : Int) (a1_1 : Int) (r : Int) (w : World) (h : impl_SureLess.f k a0_0 a0_1 a1_0 a1_1 = some r) :
  Calls Try.prog 57 #[.agg #[.int .i64 a0_0, .int .i64 a0_1], .agg #[.int .i64 a1_0, .int .i64 a1_1]] w fun e w' => e = .returned (.int .i64 r) ∧ Below w.heap.size w w' := by
 have hu42 := Try.underlying42
 have HB := Aside0.mk (Below.refl w.heap.size w)
 have H : ((impl_SpanOk.f a0_0 a0_1).bind fun t360 => (if t360 = true then ((impl_SpanOk.f a1_0 a1_1).bind fun t361 => (impl_SureLess.j0 k (!t361) a0_0 a0_1 a1_0 a1_1)) else (impl_SureLess.j0 k true a0_0 a0_1 a1_0 a1_1))) = some r := h
 clear h
 have HC3 := Aside0.mk H
 clear H
 go_enter Try.func57, Try.ntmps57
 go_upto_region 1 with (first | ((with_reducible refine gate_dst (N := 2) rfl ?_); refine bE 2 #[.int .i64 a0_0, .int .i64 a0_1] 42 ?_; intro gb358 hg w4 hbox hb; have BK358 := Aside0.mk (hbox); have GE358 := gw hg (hz0 HB); replace HB := hbb (hz0 HB) hb; clear hb hbox hg) | ((with_reducible refine gate_dst (N := 3) rfl ?_); refine bE 3 #[.int .i64 a1_0, .int .i64 a1_1] 42 ?_; intro gb359 hg w5 hbox hb; have BK359 := Aside0.mk (hbox); have GE359 := gw hg (hzs HB); have NB358_359 := nl hg (bk BK358); have NB359_358 := ng hg (bk BK358); replace BK358 := bb (bk BK358) hb; replace HB := hbb (hzs HB) hb; clear hb hbox hg))
 (try simp only [Act.put, List.setIfInBounds_toArray, List.set_cons_zero, List.set_cons_succ])
 go_cut [5] (fun v5 wc => ∃ (kq : Nat) (x5_2 : Bool), v5 = .bool x5_2 ∧ Aside0 (impl_SureLess.j0 kq x5_2 a0_0 a0_1 a1_0 a1_1 = some r) ∧ Aside0 (kq ≤ k) ∧ Aside0 (wc.heap[gb358]? = some (.cells #[.int .i64 a0_0, .int .i64 a0_1] 42 (0, 0))) ∧ Aside0 (wc.heap[gb359]? = some (.cells #[.int .i64 a1_0, .int .i64 a1_1] 42 (0, 0))) ∧ Aside0 (Below w.heap.size w wc))
 case first =>
  have H := HC3.out
  clear HC3
  replace H := Option.bind_eq_some_iff.mp H
  obtain ⟨t360, A60, H⟩ := H
  try dsimp only at H
  have A6 := Aside0.mk A60
  clear A60
  by_cases c7 : t360 = true
  ·subst c7
   have H1 : ((impl_SpanOk.f a1_0 a1_1).bind fun t361 => (impl_SureLess.j0 k (!t361) a0_0 a0_1 a1_0 a1_1)) = some r := by rw [if_pos rfl] at H; exact H
   clear H
   have H := H1
   clear H1
   replace H := Option.bind_eq_some_iff.mp H
   obtain ⟨t361, A80, H⟩ := H
   try dsimp only at H
   have A8 := Aside0.mk A80
   clear A80
   have H' := Aside0.mk H
   clear H
   have hnb9 := NB358_359.out
   have hnc9 := NB359_358.out
   obtain ⟨hcz10_0, hcz10_1, hfz10_0, hfz10_1⟩ := cz2 BK358
   go_wp2_with (first | ((with_reducible refine gate_callee (f := 72) rfl ?_); refine gL 7 Try.func72 #[.agg #[.int .i64 a0_0, .int .i64 a0_1]] ?_; (with_reducible refine (impl_SpanOk.calls a0_0 a0_1 true _ A6.out).mono ?_); rintro e w11 ⟨rfl, hb⟩; refine ⟨_, rfl, ?_⟩; replace BK358 := bb (bk BK358) hb; replace BK359 := bb (bk BK359) hb; replace HB := hbb (hzs HB) hb; clear hb; obtain ⟨hcz12_0, hcz12_1, hfz12_0, hfz12_1⟩ := cz2 BK359) | (go_at_call 72; (with_reducible refine (impl_SpanOk.calls a1_0 a1_1 t361 _ A8.out).mono ?_); rintro e w13 ⟨rfl, hb⟩; replace BK358 := bb (bk BK358) hb; replace BK359 := bb (bk BK359) hb; replace HB := hbb (hzs HB) hb; clear hb))
   go_meet
   case rel => exact ⟨_, (!t361), (by first | rfl | (simp; done) | (simp [*]; done)), H', ⟨by first | omega | exact Nat.le_refl _⟩, ⟨bk BK358⟩, ⟨bk BK359⟩, ⟨hzs HB⟩⟩
  ·replace c7 := Bool.eq_false_iff.mpr c7
   subst c7
   have H1 : (impl_SureLess.j0 k true a0_0 a0_1 a1_0 a1_1) = some r := by rw [if_neg (show ¬ (false = true) by decide)] at H; exact H
   clear H
   have H := H1
   clear H1
   have H' := Aside0.mk H
   clear H
   have hnb14 := NB358_359.out
   have hnc14 := NB359_358.out
   obtain ⟨hcz15_0, hcz15_1, hfz15_0, hfz15_1⟩ := cz2 BK358
   go_wp2_with (first | ((with_reducible refine gate_callee (f := 72) rfl ?_); refine gL 7 Try.func72 #[.agg #[.int .i64 a0_0, .int .i64 a0_1]] ?_; (with_reducible refine (impl_SpanOk.calls a0_0 a0_1 false _ A6.out).mono ?_); rintro e w16 ⟨rfl, hb⟩; refine ⟨_, rfl, ?_⟩; replace BK358 := bb (bk BK358) hb; replace BK359 := bb (bk BK359) hb; replace HB := hbb (hzs HB) hb; clear hb))
   go_meet
   case rel => exact ⟨_, (true), (by first | rfl | (simp; done) | (simp [*]; done)), H', ⟨by first | omega | exact Nat.le_refl _⟩, ⟨bk BK358⟩, ⟨bk BK359⟩, ⟨hzs HB⟩⟩
 case rest =>
  clear HC3
  try clear c1
  try clear p2
  try clear c5
  try clear c7
  try clear c9
  try clear c14
  try clear hcz10_0 hcz10_1
  try clear hcz12_0 hcz12_1
  try clear hcz15_0 hcz15_1
  try clear hfz10_0 hfz10_1
  try clear hfz12_0 hfz12_1
  try clear hfz15_0 hfz15_1
  obtain ⟨kq, x5_2, rfl, HA, HJ2, BK358, BK359, HB⟩ := hcut
  cases kq with
  | zero => exact absurd HA.out (by simp [impl_SureLess.j0])
  | succ kj2 =>
   have H := HA.out
   clear HA
   simp only [impl_SureLess.j0] at H
   by_cases c17 : x5_2 = true
   ·subst c17
    have H1 : (some 3) = some r := by rw [if_pos rfl] at H; exact H
    clear H
    have H := H1
    clear H1
    obtain rfl := Option.some.inj H
    go_wp2
    go_ret
    exact ⟨by first | rfl | (simp [errW_none, errW_some] <;> rfl) | (simp [*, errW_none, errW_some] <;> rfl), hzs HB⟩
   ·replace c17 := Bool.eq_false_iff.mpr c17
    subst c17
    have H1 : (if a0_1 < a1_0 then (some 1) else (if a0_0 ≥ a1_1 then (some 2) else (some 3))) = some r := by rw [if_neg (show ¬ (false = true) by decide)] at H; exact H
    clear H
    have H := H1
    clear H1
    by_cases c18 : a0_1 < a1_0
    ·rw [if_pos c18] at H
     have c18b0 : decide (a0_1 < a1_0) = true := decide_eq_true c18
     clear c18
     obtain rfl := Option.some.inj H
     have hnb19 := NB358_359.out
     have hnc19 := NB359_358.out
     obtain ⟨hcz20_0, hcz20_1, hfz20_0, hfz20_1⟩ := cz2 BK358
     obtain ⟨hcz21_0, hcz21_1, hfz21_0, hfz21_1⟩ := cz2 BK359
     go_wp2
     go_ret
     exact ⟨by first | rfl | (simp [errW_none, errW_some] <;> rfl) | (simp [*, errW_none, errW_some] <;> rfl), hzs HB⟩
    ·rw [if_neg c18] at H
     have c18b0 : decide (a0_1 < a1_0) = false := decide_eq_false c18
     clear c18
     by_cases c22 : a0_0 ≥ a1_1
     ·rw [if_pos c22] at H
      have c22b0 : decide (a1_1 ≤ a0_0) = true := decide_eq_true c22
      clear c22
      obtain rfl := Option.some.inj H
      have hnb23 := NB358_359.out
      have hnc23 := NB359_358.out
      obtain ⟨hcz24_0, hcz24_1, hfz24_0, hfz24_1⟩ := cz2 BK358
      obtain ⟨hcz25_0, hcz25_1, hfz25_0, hfz25_1⟩ := cz2 BK359
      go_wp2
      go_ret
      exact ⟨by first | rfl | (simp [errW_none, errW_some] <;> rfl) | (simp [*, errW_none, errW_some] <;> rfl), hzs HB⟩
     ·rw [if_neg c22] at H
      have c22b0 : decide (a1_1 ≤ a0_0) = false := decide_eq_false c22
      clear c22
      obtain rfl := Option.some.inj H
      have hnb26 := NB358_359.out
      have hnc26 := NB359_358.out
      obtain ⟨hcz27_0, hcz27_1, hfz27_0, hfz27_1⟩ := cz2 BK358
      obtain ⟨hcz28_0, hcz28_1, hfz28_0, hfz28_1⟩ := cz2 BK359
      go_wp2
      go_ret
      exact ⟨by first | rfl | (simp [errW_none, errW_some] <;> rfl) | (simp [*, errW_none, errW_some] <;> rfl), hzs HB⟩


/-! ### impl_SpotNear: function 29 -/
def impl_SpotNear.j0 : Nat → Bool → Int → Int → Int → Int → Int → Int → Option (Int)
 | 0, _, _, _, _, _, _, _ => none
 | k + 1, x7, x363000, x363001, x364000, x364001, x365000, x365001 => if x7 = true then (some 3) else ((impl_SpotSame.f x364000 x364001 x365000 x365001).bind fun t368 => (if t368 = true then (some 2) else ((impl_square.f k x363000 x363001 x364000 x364001).bind fun bt369 => ((impl_square.f k x363000 x363001 x365000 x365001).bind fun bt371 => ((impl_SureLess.f k bt369.1 bt369.2 bt371.1 bt371.2).bind fun t373 => (some t373))))))
def impl_SpotNear.f (k : Nat) (a0_0 : Int) (a0_1 : Int) (a1_0 : Int) (a1_1 : Int) (a2_0 : Int) (a2_1 : Int) : Option (Int) := (impl_SpotOk.f a0_0 a0_1).bind fun t365 => (if t365 = true then ((impl_SpotOk.f a1_0 a1_1).bind fun t366 => (if t366 = true then ((impl_SpotOk.f a2_0 a2_1).bind fun t367 => (impl_SpotNear.j0 k (!t367) a0_0 a0_1 a1_0 a1_1 a2_0 a2_1)) else (impl_SpotNear.j0 k true a0_0 a0_1 a1_0 a1_1 a2_0 a2_1))) else (impl_SpotNear.j0 k true a0_0 a0_1 a1_0 a1_1 a2_0 a2_1))
def impl_SpotNear.T5 : Bool × List (List Nat × List Nat) := (true, [([], []), ([], []), ([0, 1], [0, 1]), ([], []), ([], []), ([3, 4, 2], [3, 4]), ([2, 5, 5], [2, 5]), ([6, 6, 0, 1, 2, 3, 4, 5, 6], [6])])
def impl_SpotNear.B5 : List Nat := [0, 0, 3, 0, 0, 31, 63, 127]
theorem impl_SpotNear.tab5 : rtab .any (opsOf Try.f29 5) = impl_SpotNear.T5 := by kernel_rfl
theorem impl_SpotNear.bits5 : waitsOk impl_SpotNear.T5.2 impl_SpotNear.B5 = true := by kernel_rfl
set_option maxHeartbeats 8000000 in
set_option maxRecDepth 100000 in
theorem impl_SpotNear.calls (k : Nat) (a0_0 : Int) (a0_1 : Int) (a1_0 : Int) (a1_1 : Int) (a2_0 : Int) (a2_1 : Int) (r : Int) (w : World) (h : impl_SpotNear.f k a0_0 a0_1 a1_0 a1_1 a2_0 a2_1 = some r) :
  Calls Try.prog 29 #[.agg #[.int .i64 a0_0, .int .i64 a0_1], .agg #[.int .i64 a1_0, .int .i64 a1_1], .agg #[.int .i64 a2_0, .int .i64 a2_1]] w fun e w' => e = .returned (.int .i64 r) ∧ Below w.heap.size w w' := by
 have hu24 := Try.underlying24
 have HB := Aside0.mk (Below.refl w.heap.size w)
 have H : ((impl_SpotOk.f a0_0 a0_1).bind fun t365 => (if t365 = true then ((impl_SpotOk.f a1_0 a1_1).bind fun t366 => (if t366 = true then ((impl_SpotOk.f a2_0 a2_1).bind fun t367 => (impl_SpotNear.j0 k (!t367) a0_0 a0_1 a1_0 a1_1 a2_0 a2_1)) else (impl_SpotNear.j0 k true a0_0 a0_1 a1_0 a1_1 a2_0 a2_1))) else (impl_SpotNear.j0 k true a0_0 a0_1 a1_0 a1_1 a2_0 a2_1))) = some r := h
 clear h
 have HC4 := Aside0.mk H
 clear H
 go_enter Try.func29, Try.ntmps29
 go_upto_region 1 with (first | ((with_reducible refine gate_dst (N := 3) rfl ?_); refine bE 3 #[.int .i64 a0_0, .int .i64 a0_1] 24 ?_; intro gb362 hg w5 hbox hb; have BK362 := Aside0.mk (hbox); have GE362 := gw hg (hz0 HB); replace HB := hbb (hz0 HB) hb; clear hb hbox hg) | ((with_reducible refine gate_dst (N := 4) rfl ?_); refine bE 4 #[.int .i64 a1_0, .int .i64 a1_1] 24 ?_; intro gb363 hg w6 hbox hb; have BK363 := Aside0.mk (hbox); have GE363 := gw hg (hzs HB); have NB362_363 := nl hg (bk BK362); have NB363_362 := ng hg (bk BK362); replace BK362 := bb (bk BK362) hb; replace HB := hbb (hzs HB) hb; clear hb hbox hg) | ((with_reducible refine gate_dst (N := 5) rfl ?_); refine bE 5 #[.int .i64 a2_0, .int .i64 a2_1] 24 ?_; intro gb364 hg w7 hbox hb; have BK364 := Aside0.mk (hbox); have GE364 := gw hg (hzs HB); have NB362_364 := nl hg (bk BK362); have NB364_362 := ng hg (bk BK362); have NB363_364 := nl hg (bk BK363); have NB364_363 := ng hg (bk BK363); replace BK362 := bb (bk BK362) hb; replace BK363 := bb (bk BK363) hb; replace HB := hbb (hzs HB) hb; clear hb hbox hg))
 (try simp only [Act.put, List.setIfInBounds_toArray, List.set_cons_zero, List.set_cons_succ])
 go_cut [7] (fun v7 wc => ∃ (kq : Nat) (x7_3 : Bool), v7 = .bool x7_3 ∧ Aside0 (impl_SpotNear.j0 kq x7_3 a0_0 a0_1 a1_0 a1_1 a2_0 a2_1 = some r) ∧ Aside0 (kq ≤ k) ∧ Aside0 (wc.heap[gb362]? = some (.cells #[.int .i64 a0_0, .int .i64 a0_1] 24 (0, 0))) ∧ Aside0 (wc.heap[gb363]? = some (.cells #[.int .i64 a1_0, .int .i64 a1_1] 24 (0, 0))) ∧ Aside0 (wc.heap[gb364]? = some (.cells #[.int .i64 a2_0, .int .i64 a2_1] 24 (0, 0))) ∧ Aside0 (Below w.heap.size w wc))
 case first =>
  have H := HC4.out
  clear HC4
  replace H := Option.bind_eq_some_iff.mp H
  obtain ⟨t365, A80, H⟩ := H
  try dsimp only at H
  have A8 := Aside0.mk A80
  clear A80
  by_cases c9 : t365 = true
  ·subst c9
   have H1 : ((impl_SpotOk.f a1_0 a1_1).bind fun t366 => (if t366 = true then ((impl_SpotOk.f a2_0 a2_1).bind fun t367 => (impl_SpotNear.j0 k (!t367) a0_0 a0_1 a1_0 a1_1 a2_0 a2_1)) else (impl_SpotNear.j0 k true a0_0 a0_1 a1_0 a1_1 a2_0 a2_1))) = some r := by rw [if_pos rfl] at H; exact H
   clear H
   have H := H1
   clear H1
   replace H := Option.bind_eq_some_iff.mp H
   obtain ⟨t366, A100, H⟩ := H
   try dsimp only at H
   have A10 := Aside0.mk A100
   clear A100
   by_cases c11 : t366 = true
   ·subst c11
    have H1 : ((impl_SpotOk.f a2_0 a2_1).bind fun t367 => (impl_SpotNear.j0 k (!t367) a0_0 a0_1 a1_0 a1_1 a2_0 a2_1)) = some r := by rw [if_pos rfl] at H; exact H
    clear H
    have H := H1
    clear H1
    replace H := Option.bind_eq_some_iff.mp H
    obtain ⟨t367, A120, H⟩ := H
    try dsimp only at H
    have A12 := Aside0.mk A120
    clear A120
    have H' := Aside0.mk H
    clear H
    have hnb13 := NB362_363.out
    have hnc13 := NB363_362.out
    have hnb14 := NB362_364.out
    have hnc14 := NB364_362.out
    obtain ⟨hcz15_0, hcz15_1, hfz15_0, hfz15_1⟩ := cz2 BK362
    go_wp2_with (first | ((with_reducible refine gate_callee (f := 21) rfl ?_); refine gL 9 Try.func21 #[.agg #[.int .i64 a0_0, .int .i64 a0_1]] ?_; (with_reducible refine (impl_SpotOk.calls a0_0 a0_1 true _ A8.out).mono ?_); rintro e w16 ⟨rfl, hb⟩; refine ⟨_, rfl, ?_⟩; replace BK362 := bb (bk BK362) hb; replace BK363 := bb (bk BK363) hb; replace BK364 := bb (bk BK364) hb; replace HB := hbb (hzs HB) hb; clear hb; have hnb17 := NB363_364.out; have hnc17 := NB364_363.out; obtain ⟨hcz18_0, hcz18_1, hfz18_0, hfz18_1⟩ := cz2 BK363) | (go_at_call 21; (with_reducible refine (impl_SpotOk.calls a1_0 a1_1 true _ A10.out).mono ?_); rintro e w19 ⟨rfl, hb⟩; replace BK362 := bb (bk BK362) hb; replace BK363 := bb (bk BK363) hb; replace BK364 := bb (bk BK364) hb; replace HB := hbb (hzs HB) hb; clear hb; obtain ⟨hcz20_0, hcz20_1, hfz20_0, hfz20_1⟩ := cz2 BK364) | (go_at_call 21; (with_reducible refine (impl_SpotOk.calls a2_0 a2_1 t367 _ A12.out).mono ?_); rintro e w21 ⟨rfl, hb⟩; replace BK362 := bb (bk BK362) hb; replace BK363 := bb (bk BK363) hb; replace BK364 := bb (bk BK364) hb; replace HB := hbb (hzs HB) hb; clear hb))
    go_meet
    case rel => exact ⟨_, (!t367), (by first | rfl | (simp; done) | (simp [*]; done)), H', ⟨by first | omega | exact Nat.le_refl _⟩, ⟨bk BK362⟩, ⟨bk BK363⟩, ⟨bk BK364⟩, ⟨hzs HB⟩⟩
   ·replace c11 := Bool.eq_false_iff.mpr c11
    subst c11
    have H1 : (impl_SpotNear.j0 k true a0_0 a0_1 a1_0 a1_1 a2_0 a2_1) = some r := by rw [if_neg (show ¬ (false = true) by decide)] at H; exact H
    clear H
    have H := H1
    clear H1
    have H' := Aside0.mk H
    clear H
    have hnb22 := NB362_363.out
    have hnc22 := NB363_362.out
    have hnb23 := NB362_364.out
    have hnc23 := NB364_362.out
    obtain ⟨hcz24_0, hcz24_1, hfz24_0, hfz24_1⟩ := cz2 BK362
    go_wp2_with (first | ((with_reducible refine gate_callee (f := 21) rfl ?_); refine gL 9 Try.func21 #[.agg #[.int .i64 a0_0, .int .i64 a0_1]] ?_; (with_reducible refine (impl_SpotOk.calls a0_0 a0_1 true _ A8.out).mono ?_); rintro e w25 ⟨rfl, hb⟩; refine ⟨_, rfl, ?_⟩; replace BK362 := bb (bk BK362) hb; replace BK363 := bb (bk BK363) hb; replace BK364 := bb (bk BK364) hb; replace HB := hbb (hzs HB) hb; clear hb; have hnb26 := NB363_364.out; have hnc26 := NB364_363.out; obtain ⟨hcz27_0, hcz27_1, hfz27_0, hfz27_1⟩ := cz2 BK363) | (go_at_call 21; (with_reducible refine (impl_SpotOk.calls a1_0 a1_1 false _ A10.out).mono ?_); rintro e w28 ⟨rfl, hb⟩; replace BK362 := bb (bk BK362) hb; replace BK363 := bb (bk BK363) hb; replace BK364 := bb (bk BK364) hb; replace HB := hbb (hzs HB) hb; clear hb))
    go_meet
    case rel => exact ⟨_, (true), (by first | rfl | (simp; done) | (simp [*]; done)), H', ⟨by first | omega | exact Nat.le_refl _⟩, ⟨bk BK362⟩, ⟨bk BK363⟩, ⟨bk BK364⟩, ⟨hzs HB⟩⟩
  ·replace c9 := Bool.eq_false_iff.mpr c9
   subst c9
   have H1 : (impl_SpotNear.j0 k true a0_0 a0_1 a1_0 a1_1 a2_0 a2_1) = some r := by rw [if_neg (show ¬ (false = true) by decide)] at H; exact H
   clear H
   have H := H1
   clear H1
   have H' := Aside0.mk H
   clear H
   have hnb29 := NB362_363.out
   have hnc29 := NB363_362.out
   have hnb30 := NB362_364.out
   have hnc30 := NB364_362.out
   obtain ⟨hcz31_0, hcz31_1, hfz31_0, hfz31_1⟩ := cz2 BK362
   go_wp2_with (first | ((with_reducible refine gate_callee (f := 21) rfl ?_); refine gL 9 Try.func21 #[.agg #[.int .i64 a0_0, .int .i64 a0_1]] ?_; (with_reducible refine (impl_SpotOk.calls a0_0 a0_1 false _ A8.out).mono ?_); rintro e w32 ⟨rfl, hb⟩; refine ⟨_, rfl, ?_⟩; replace BK362 := bb (bk BK362) hb; replace BK363 := bb (bk BK363) hb; replace BK364 := bb (bk BK364) hb; replace HB := hbb (hzs HB) hb; clear hb))
   go_meet
   case rel => exact ⟨_, (true), (by first | rfl | (simp; done) | (simp [*]; done)), H', ⟨by first | omega | exact Nat.le_refl _⟩, ⟨bk BK362⟩, ⟨bk BK363⟩, ⟨bk BK364⟩, ⟨hzs HB⟩⟩
 case rest =>
  clear HC4
  try clear c1
  try clear c2
  try clear p2
  try clear c3
  try clear c9
  try clear c11
  try clear c13
  try clear c14
  try clear c17
  try clear c21
  try clear c22
  try clear c23
  try clear c26
  try clear c29
  try clear c30
  try clear hcz15_0 hcz15_1
  try clear hcz18_0 hcz18_1
  try clear hcz20_0 hcz20_1
  try clear hcz24_0 hcz24_1
  try clear hcz27_0 hcz27_1
  try clear hcz31_0 hcz31_1
  try clear hfz15_0 hfz15_1
  try clear hfz18_0 hfz18_1
  try clear hfz20_0 hfz20_1
  try clear hfz24_0 hfz24_1
  try clear hfz27_0 hfz27_1
  try clear hfz31_0 hfz31_1
  obtain ⟨kq, x7_3, rfl, HA, HJ3, BK362, BK363, BK364, HB⟩ := hcut
  cases kq with
  | zero => exact absurd HA.out (by simp [impl_SpotNear.j0])
  | succ kj3 =>
   have H := HA.out
   clear HA
   simp only [impl_SpotNear.j0] at H
   by_cases c33 : x7_3 = true
   ·subst c33
    have H1 : (some 3) = some r := by rw [if_pos rfl] at H; exact H
    clear H
    have H := H1
    clear H1
    obtain rfl := Option.some.inj H
    go_wp2
    go_ret
    exact ⟨by first | rfl | (simp [errW_none, errW_some] <;> rfl) | (simp [*, errW_none, errW_some] <;> rfl), hzs HB⟩
   ·replace c33 := Bool.eq_false_iff.mpr c33
    subst c33
    have H1 : ((impl_SpotSame.f a1_0 a1_1 a2_0 a2_1).bind fun t368 => (if t368 = true then (some 2) else ((impl_square.f kj3 a0_0 a0_1 a1_0 a1_1).bind fun bt369 => ((impl_square.f kj3 a0_0 a0_1 a2_0 a2_1).bind fun bt371 => ((impl_SureLess.f kj3 bt369.1 bt369.2 bt371.1 bt371.2).bind fun t373 => (some t373)))))) = some r := by rw [if_neg (show ¬ (false = true) by decide)] at H; exact H
    clear H
    have H := H1
    clear H1
    replace H := Option.bind_eq_some_iff.mp H
    obtain ⟨t368, A340, H⟩ := H
    try dsimp only at H
    have A34 := Aside0.mk A340
    clear A340
    by_cases c35 : t368 = true
    ·subst c35
     have H1 : (some 2) = some r := by rw [if_pos rfl] at H; exact H
     clear H
     have H := H1
     clear H1
     obtain rfl := Option.some.inj H
     have hnb36 := NB363_362.out
     have hnc36 := NB362_363.out
     have hnb37 := NB363_364.out
     have hnc37 := NB364_363.out
     obtain ⟨hcz38_0, hcz38_1, hfz38_0, hfz38_1⟩ := cz2 BK363
     have hnb39 := NB364_362.out
     have hnc39 := NB362_364.out
     obtain ⟨hcz40_0, hcz40_1, hfz40_0, hfz40_1⟩ := cz2 BK364
     go_wp2_with (first | ((with_reducible refine gate_callee (f := 24) rfl ?_); refine gL 24 Try.func24 #[.agg #[.int .i64 a1_0, .int .i64 a1_1], .agg #[.int .i64 a2_0, .int .i64 a2_1]] ?_; (with_reducible refine (impl_SpotSame.calls a1_0 a1_1 a2_0 a2_1 true _ A34.out).mono ?_); rintro e w41 ⟨rfl, hb⟩; refine ⟨_, rfl, ?_⟩; replace BK362 := bb (bk BK362) hb; replace BK363 := bb (bk BK363) hb; replace BK364 := bb (bk BK364) hb; replace HB := hbb (hzs HB) hb; clear hb))
     go_ret
     exact ⟨by first | rfl | (simp [errW_none, errW_some] <;> rfl) | (simp [*, errW_none, errW_some] <;> rfl), hzs HB⟩
    ·replace c35 := Bool.eq_false_iff.mpr c35
     subst c35
     have H1 : ((impl_square.f kj3 a0_0 a0_1 a1_0 a1_1).bind fun bt369 => ((impl_square.f kj3 a0_0 a0_1 a2_0 a2_1).bind fun bt371 => ((impl_SureLess.f kj3 bt369.1 bt369.2 bt371.1 bt371.2).bind fun t373 => (some t373)))) = some r := by rw [if_neg (show ¬ (false = true) by decide)] at H; exact H
     clear H
     have H := H1
     clear H1
     replace H := Option.bind_eq_some_iff.mp H
     obtain ⟨⟨t369, t370⟩, A420, H⟩ := H
     try dsimp only at H
     have A42 := Aside0.mk A420
     clear A420
     replace H := Option.bind_eq_some_iff.mp H
     obtain ⟨⟨t371, t372⟩, A430, H⟩ := H
     try dsimp only at H
     have A43 := Aside0.mk A430
     clear A430
     replace H := Option.bind_eq_some_iff.mp H
     obtain ⟨t373, A440, H⟩ := H
     try dsimp only at H
     have A44 := Aside0.mk A440
     clear A440
     obtain rfl := Option.some.inj H
     have hnb45 := NB363_362.out
     have hnc45 := NB362_363.out
     have hnb46 := NB363_364.out
     have hnc46 := NB364_363.out
     obtain ⟨hcz47_0, hcz47_1, hfz47_0, hfz47_1⟩ := cz2 BK363
     have hnb48 := NB364_362.out
     have hnc48 := NB362_364.out
     obtain ⟨hcz49_0, hcz49_1, hfz49_0, hfz49_1⟩ := cz2 BK364
     try go_wp2_with (first | ((with_reducible refine gate_callee (f := 24) rfl ?_); refine gL 24 Try.func24 #[.agg #[.int .i64 a1_0, .int .i64 a1_1], .agg #[.int .i64 a2_0, .int .i64 a2_1]] ?_; (with_reducible refine (impl_SpotSame.calls a1_0 a1_1 a2_0 a2_1 false _ A34.out).mono ?_); rintro e w50 ⟨rfl, hb⟩; refine ⟨_, rfl, ?_⟩; replace BK362 := bb (bk BK362) hb; replace BK363 := bb (bk BK363) hb; replace BK364 := bb (bk BK364) hb; replace HB := hbb (hzs HB) hb; clear hb))
     replace BK362 := Aside0.mk (blk_drew BK362.out)
     replace BK363 := Aside0.mk (blk_drew BK363.out)
     replace BK364 := Aside0.mk (blk_drew BK364.out)
     replace HB := Aside0.mk (below_drew1 HB.out)
     refine start_ (n := 8) (S := fun w' => w'.cell? ⟨gb362, 0, none⟩ = some (.int .i64 a0_0) ∧ w'.cell? ⟨gb362, 1, none⟩ = some (.int .i64 a0_1) ∧ w'.cell? ⟨gb363, 0, none⟩ = some (.int .i64 a1_0) ∧ w'.cell? ⟨gb363, 1, none⟩ = some (.int .i64 a1_1) ∧ w'.cell? ⟨gb364, 0, none⟩ = some (.int .i64 a2_0) ∧ w'.cell? ⟨gb364, 1, none⟩ = some (.int .i64 a2_1)) (ds := []) #[false, false, false, false, false, false, false, false] (by kernel_rfl) rfl rfl ⟨cw0 BK362, cw1 BK362, cw0 BK363, cw1 BK363, cw0 BK364, cw1 BK364⟩ (fun hHeld => ?_); refine with_tabW impl_SpotNear.tab5 impl_SpotNear.bits5 (fun HT_ HW_ => ?_)
     generalize w50.drew = w51 at BK362 BK363 BK364 HB hHeld ⊢
     refine take_ (i := 0) (N := some 25) (v := ?_) (a' := ?_) #[true, false, false, false, false, false, false, false] rfl rfl (take_ofW HT_.out HW_.out (by kernel_rfl)) (fun _ _ _ h => h) (Or.inl ⟨by rfl, ?_⟩) hHeld ?_ ?_
     rotate_left
     ·rintro w' ⟨s0, s1, s2, s3, s4, s5⟩
      go_simp
      with_reducible rfl
     rotate_left
     ·simp only [Act.put, List.setIfInBounds_toArray, List.set_cons_zero, List.set_cons_succ, i64_w, i32_w]
      rfl
     refine take_ (i := 1) (N := some 26) (v := ?_) (a' := ?_) #[true, true, false, false, false, false, false, false] rfl rfl (take_ofW HT_.out HW_.out (by kernel_rfl)) (fun _ _ _ h => h) (Or.inl ⟨by rfl, ?_⟩) hHeld ?_ ?_
     rotate_left
     ·rintro w' ⟨s0, s1, s2, s3, s4, s5⟩
      go_simp
      with_reducible rfl
     rotate_left
     ·simp only [Act.put, List.setIfInBounds_toArray, List.set_cons_zero, List.set_cons_succ, i64_w, i32_w]
      rfl
     refine take_ (i := 3) (N := some 28) (v := ?_) (a' := ?_) #[true, true, false, true, false, false, false, false] rfl rfl (take_ofW HT_.out HW_.out (by kernel_rfl)) (fun _ _ _ h => h) (Or.inl ⟨by rfl, ?_⟩) hHeld ?_ ?_
     rotate_left
     ·rintro w' ⟨s0, s1, s2, s3, s4, s5⟩
      go_simp
      with_reducible rfl
     rotate_left
     ·simp only [Act.put, List.setIfInBounds_toArray, List.set_cons_zero, List.set_cons_succ, i64_w, i32_w]
      rfl
     refine take_ (i := 4) (N := some 29) (v := ?_) (a' := ?_) #[true, true, false, true, true, false, false, false] rfl rfl (take_ofW HT_.out HW_.out (by kernel_rfl)) (fun _ _ _ h => h) (Or.inl ⟨by rfl, ?_⟩) hHeld ?_ ?_
     rotate_left
     ·rintro w' ⟨s0, s1, s2, s3, s4, s5⟩
      go_simp
      with_reducible rfl
     rotate_left
     ·simp only [Act.put, List.setIfInBounds_toArray, List.set_cons_zero, List.set_cons_succ, i64_w, i32_w]
      rfl
     refine oN 2 27 #[true, true, true, true, true, false, false, false] HT_ (fun K hK => ?_)
     refine gS Try.func47 #[.agg #[.int .i64 a0_0, .int .i64 a0_1], .agg #[.int .i64 a1_0, .int .i64 a1_1]] ?_
     with_reducible refine (impl_square.calls kj3 a0_0 a0_1 a1_0 a1_1 t369 t370 _ A42.out).mono ?_
     rintro e w52 ⟨rfl, hb⟩
     refine ⟨_, rfl, ?_⟩
     replace BK362 := bb (bk BK362) hb
     replace BK363 := bb (bk BK363) hb
     replace BK364 := bb (bk BK364) hb
     replace HB := hbb (hzs HB) hb
     clear hb
     refine hK.out _ _ ⟨cw0 BK362, cw1 BK362, cw0 BK363, cw1 BK363, cw0 BK364, cw1 BK364⟩ (fun hHeld => ?_)
     clear hK K
     refine nP ?_
     refine oN 5 30 #[true, true, true, true, true, true, false, false] HT_ (fun K hK => ?_)
     refine gS Try.func47 #[.agg #[.int .i64 a0_0, .int .i64 a0_1], .agg #[.int .i64 a2_0, .int .i64 a2_1]] ?_
     with_reducible refine (impl_square.calls kj3 a0_0 a0_1 a2_0 a2_1 t371 t372 _ A43.out).mono ?_
     rintro e w53 ⟨rfl, hb⟩
     refine ⟨_, rfl, ?_⟩
     replace BK362 := bb (bk BK362) hb
     replace BK363 := bb (bk BK363) hb
     replace BK364 := bb (bk BK364) hb
     replace HB := hbb (hzs HB) hb
     clear hb
     refine hK.out _ _ ⟨cw0 BK362, cw1 BK362, cw0 BK363, cw1 BK363, cw0 BK364, cw1 BK364⟩ (fun hHeld => ?_)
     clear hK K
     refine nP ?_
     refine oN 6 31 #[true, true, true, true, true, true, true, false] HT_ (fun K hK => ?_)
     refine gS Try.func57 #[.agg #[.int .i64 t369, .int .i64 t370], .agg #[.int .i64 t371, .int .i64 t372]] ?_
     with_reducible refine (impl_SureLess.calls kj3 t369 t370 t371 t372 t373 _ A44.out).mono ?_
     rintro e w54 ⟨rfl, hb⟩
     refine ⟨_, rfl, ?_⟩
     replace BK362 := bb (bk BK362) hb
     replace BK363 := bb (bk BK363) hb
     replace BK364 := bb (bk BK364) hb
     replace HB := hbb (hzs HB) hb
     clear hb
     refine hK.out _ _ ⟨cw0 BK362, cw1 BK362, cw0 BK363, cw1 BK363, cw0 BK364, cw1 BK364⟩ (fun hHeld => ?_)
     clear hK K
     refine nP ?_
     refine pU 7 6 #[true, true, true, true, true, true, true, true] HT_ ?_
     refine done_ (done_of HT_.out (by kernel_rfl)) ?_
     try go_wp2
     go_ret
     exact ⟨by first | rfl | (simp [errW_none, errW_some] <;> rfl) | (simp [*, errW_none, errW_some] <;> rfl), hzs HB⟩


end Go.Proofs.Ytmcippkpgmehdaa.M
