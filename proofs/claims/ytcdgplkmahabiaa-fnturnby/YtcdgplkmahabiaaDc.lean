import Derived.Test.YtcdgplkmahabiaaM0
import Derived.Test.YtcdgplkmahabiaaDa
namespace Go.Proofs.Ytcdgplkmahabiaa.M
open Go.RowKit Go.Proofs.YtcdgplkmahabiaaW.PrintWords Go.Proofs.YtcdgplkmahabiaaW.PrintLast Go.Proofs.YtcdgplkmahabiaaW.PrintMore
attribute [local go_sem] max2_int min2_int max_two min_two max_three min_three max_four min_four
attribute [local go_sem high] eqA23 eqA30
attribute [local go_sem] fld23_0 fld23_1 fld30_0 fld30_1 fld55_0 fld55_1 fld55_2 fld55_3 fld55_4
set_option linter.unusedVariables false
set_option linter.unusedSimpArgs false

/-! ### spec_l71Ang: function 78 -/
def spec_l71Ang.f (k : Nat) (s0_0 : List Int) (s0_1 : Int) : Option (Int × Int) := (spec_l6Rd_pick.f k s0_0 s0_1 6).bind fun bt327 => (if bt327.1 = 0 then ((spec_l6Rd_pick.f k s0_0 bt327.2 49).bind fun bt329 => (some (wrap64 (Int.tdiv (wrap64 ((wrap64 (bt329.1 - 24)) * 32400000)) 6), bt329.2))) else (if bt327.1 = 1 then ((spec_l6Rd_pick.f k s0_0 bt327.2 721).bind fun bt331 => (some (wrap64 ((wrap64 (bt331.1 - 360)) * 360000), bt331.2))) else (if bt327.1 = 2 then ((spec_l6Rd_pick.f k s0_0 bt327.2 13).bind fun bt333 => ((spec_l6Rd_pick.f k s0_0 bt333.2 5).bind fun bt335 => (some (wrap64 ((wrap64 ((wrap64 ((wrap64 (bt333.1 - 6)) * 32400000)) + bt335.1)) - 2), bt335.2)))) else ((spec_l71Big.f k s0_0 bt327.2 129600000).bind fun bt337 => (some (bt337.1, bt337.2))))))
theorem spec_l71Ang.mono : ∀ a0 a1 k, LeO (spec_l71Ang.f k a0 a1) (spec_l71Ang.f (k + 1) a0 a1) := by
 intro a0 a1 k
 unfold spec_l71Ang.f
 repeat' first
   | (with_reducible exact spec_l6Rd_pick.mono _ _ _ _)
   | (with_reducible exact spec_l71Big.mono _ _ _ _)
   | (with_reducible exact LeO.refl _)
   | (with_reducible exact LeO.none _)
   | (with_reducible refine LeO.ite ?_ ?_)
   | (with_reducible refine LeO.bind ?_ (fun _ => ?_))
   | exact spec_l6Rd_pick.mono _ _ _ _
   | exact spec_l71Big.mono _ _ _ _
   | exact LeO.none _
   | refine LeO.ite ?_ ?_
   | refine LeO.bind ?_ (fun _ => ?_)
set_option maxHeartbeats 8000000 in
set_option maxRecDepth 100000 in
theorem spec_l71Ang.calls (k : Nat) (g : Nat) (s0_0 : List Int) (s0_1 : Int) (r1 : Int) (r2 : Int) (w0 w : World) (hI : IsS70 w0 w g s0_0 s0_1) (hB : Below w0.heap.size w0 w) (h : spec_l71Ang.f k s0_0 s0_1 = some (r1, r2)) :
  Calls Try.prog 78 #[.pointer (some ⟨g, 0, none⟩)] w fun e w' => e = .returned (.int .i64 r1) ∧ IsS70 w0 w' g s0_0 r2 ∧ Below w0.heap.size w0 w' ∧ KeepBut w w' g none := by
 have HI0 := Aside0.mk hI
 have HK := Aside0.mk (KeepBut.refl w g none)
 have HL := Aside0.mk hB.size
 clear hI
 have HW0 := Aside0.mk hB.size
 have HB := Aside0.mk hB
 clear hB
 have H : ((spec_l6Rd_pick.f k s0_0 s0_1 6).bind fun bt327 => (if bt327.1 = 0 then ((spec_l6Rd_pick.f k s0_0 bt327.2 49).bind fun bt329 => (some (wrap64 (Int.tdiv (wrap64 ((wrap64 (bt329.1 - 24)) * 32400000)) 6), bt329.2))) else (if bt327.1 = 1 then ((spec_l6Rd_pick.f k s0_0 bt327.2 721).bind fun bt331 => (some (wrap64 ((wrap64 (bt331.1 - 360)) * 360000), bt331.2))) else (if bt327.1 = 2 then ((spec_l6Rd_pick.f k s0_0 bt327.2 13).bind fun bt333 => ((spec_l6Rd_pick.f k s0_0 bt333.2 5).bind fun bt335 => (some (wrap64 ((wrap64 ((wrap64 ((wrap64 (bt333.1 - 6)) * 32400000)) + bt335.1)) - 2), bt335.2)))) else ((spec_l71Big.f k s0_0 bt327.2 129600000).bind fun bt337 => (some (bt337.1, bt337.2))))))) = some (r1, r2) := h
 clear h
 replace H := Option.bind_eq_some_iff.mp H
 obtain ⟨⟨t327, t328⟩, A20, H⟩ := H
 replace H : (if t327 = 0 then ((spec_l6Rd_pick.f k s0_0 t328 49).bind fun bt329 => (some (wrap64 (Int.tdiv (wrap64 ((wrap64 (bt329.1 - 24)) * 32400000)) 6), bt329.2))) else (if t327 = 1 then ((spec_l6Rd_pick.f k s0_0 t328 721).bind fun bt331 => (some (wrap64 ((wrap64 (bt331.1 - 360)) * 360000), bt331.2))) else (if t327 = 2 then ((spec_l6Rd_pick.f k s0_0 t328 13).bind fun bt333 => ((spec_l6Rd_pick.f k s0_0 bt333.2 5).bind fun bt335 => (some (wrap64 ((wrap64 ((wrap64 ((wrap64 (bt333.1 - 6)) * 32400000)) + bt335.1)) - 2), bt335.2)))) else ((spec_l71Big.f k s0_0 t328 129600000).bind fun bt337 => (some (bt337.1, bt337.2)))))) = some (r1, r2) := H
 have A2 := Aside0.mk A20
 clear A20
 by_cases c3 : t327 = 0
 ·rw [if_pos c3] at H
  have c3b0 : (t327 == 0) = true := beq_iff_eq.mpr c3
  have c3b1 : (t327 != 0) = false := bne_eq_false_iff_eq.mpr c3
  clear c3
  replace H := Option.bind_eq_some_iff.mp H
  obtain ⟨⟨t329, t330⟩, A40, H⟩ := H
  replace H : (some (wrap64 (Int.tdiv (wrap64 ((wrap64 (t329 - 24)) * 32400000)) 6), t330)) = some (r1, r2) := H
  have A4 := Aside0.mk A40
  clear A40
  simp only [Option.some.injEq, Prod.mk.injEq] at H
  obtain ⟨rfl, rfl⟩ := H
  go_enter Try.func78, Try.ntmps78
  go_wp2_with (first | ((with_reducible refine gate_callee (f := 53) rfl ?_); refine gL 4 Try.func53 #[.pointer (some ⟨g, 0, none⟩), .int .i64 6] ?_; (with_reducible refine (spec_l6Rd_pick.calls k g s0_0 s0_1 6 t327 t328 w0 _ ?side1 ?side2 A2.out).mono ?_); (case side1 => exact IsS70.go_ HI0); (case side2 => exact hsI_ HB); rintro e w5 ⟨rfl, hi, hb, hk⟩; refine ⟨_, rfl, ?_⟩; replace HK := Aside0.mk (KeepBut.trans (hk_ HK) hk (.inl rfl)); replace HB := Aside0.mk (hb); replace HI0 := Aside0.mk (hi); clear hi hb hk) | ((with_reducible refine gate_callee (f := 53) rfl ?_); refine gL 8 Try.func53 #[.pointer (some ⟨g, 0, none⟩), .int .i64 49] ?_; (with_reducible refine (spec_l6Rd_pick.calls k g s0_0 t328 49 t329 t330 w0 _ ?side1 ?side2 A4.out).mono ?_); (case side1 => exact IsS70.go_ HI0); (case side2 => exact hsI_ HB); rintro e w6 ⟨rfl, hi, hb, hk⟩; refine ⟨_, rfl, ?_⟩; replace HK := Aside0.mk (KeepBut.trans (hk_ HK) hk (.inl rfl)); replace HB := Aside0.mk (hb); replace HI0 := Aside0.mk (hi); clear hi hb hk))
  go_ret
  exact ⟨by first | rfl | (simp [errW_none, errW_some] <;> rfl) | (simp [*, errW_none, errW_some] <;> rfl), IsS70.go_ HI0, hsI_ HB, hk_ HK⟩
 ·rw [if_neg c3] at H
  have c3b0 : (t327 == 0) = false := beq_eq_false_iff_ne.mpr c3
  have c3b1 : (t327 != 0) = true := bne_iff_ne.mpr c3
  by_cases c7 : t327 = 1
  ·rw [if_pos c7] at H
   have c7b0 : (t327 == 1) = true := beq_iff_eq.mpr c7
   have c7b1 : (t327 != 1) = false := bne_eq_false_iff_eq.mpr c7
   clear c7
   replace H := Option.bind_eq_some_iff.mp H
   obtain ⟨⟨t331, t332⟩, A80, H⟩ := H
   replace H : (some (wrap64 ((wrap64 (t331 - 360)) * 360000), t332)) = some (r1, r2) := H
   have A8 := Aside0.mk A80
   clear A80
   simp only [Option.some.injEq, Prod.mk.injEq] at H
   obtain ⟨rfl, rfl⟩ := H
   go_enter Try.func78, Try.ntmps78
   go_wp2_with (first | ((with_reducible refine gate_callee (f := 53) rfl ?_); refine gL 4 Try.func53 #[.pointer (some ⟨g, 0, none⟩), .int .i64 6] ?_; (with_reducible refine (spec_l6Rd_pick.calls k g s0_0 s0_1 6 t327 t328 w0 _ ?side1 ?side2 A2.out).mono ?_); (case side1 => exact IsS70.go_ HI0); (case side2 => exact hsI_ HB); rintro e w9 ⟨rfl, hi, hb, hk⟩; refine ⟨_, rfl, ?_⟩; replace HK := Aside0.mk (KeepBut.trans (hk_ HK) hk (.inl rfl)); replace HB := Aside0.mk (hb); replace HI0 := Aside0.mk (hi); clear hi hb hk) | ((with_reducible refine gate_callee (f := 53) rfl ?_); refine gL 15 Try.func53 #[.pointer (some ⟨g, 0, none⟩), .int .i64 721] ?_; (with_reducible refine (spec_l6Rd_pick.calls k g s0_0 t328 721 t331 t332 w0 _ ?side1 ?side2 A8.out).mono ?_); (case side1 => exact IsS70.go_ HI0); (case side2 => exact hsI_ HB); rintro e w10 ⟨rfl, hi, hb, hk⟩; refine ⟨_, rfl, ?_⟩; replace HK := Aside0.mk (KeepBut.trans (hk_ HK) hk (.inl rfl)); replace HB := Aside0.mk (hb); replace HI0 := Aside0.mk (hi); clear hi hb hk))
   go_ret
   exact ⟨by first | rfl | (simp [errW_none, errW_some] <;> rfl) | (simp [*, errW_none, errW_some] <;> rfl), IsS70.go_ HI0, hsI_ HB, hk_ HK⟩
  ·rw [if_neg c7] at H
   have c7b0 : (t327 == 1) = false := beq_eq_false_iff_ne.mpr c7
   have c7b1 : (t327 != 1) = true := bne_iff_ne.mpr c7
   by_cases c11 : t327 = 2
   ·rw [if_pos c11] at H
    have c11b0 : (t327 == 2) = true := beq_iff_eq.mpr c11
    have c11b1 : (t327 != 2) = false := bne_eq_false_iff_eq.mpr c11
    clear c11
    replace H := Option.bind_eq_some_iff.mp H
    obtain ⟨⟨t333, t334⟩, A120, H⟩ := H
    replace H : ((spec_l6Rd_pick.f k s0_0 t334 5).bind fun bt335 => (some (wrap64 ((wrap64 ((wrap64 ((wrap64 (t333 - 6)) * 32400000)) + bt335.1)) - 2), bt335.2))) = some (r1, r2) := H
    have A12 := Aside0.mk A120
    clear A120
    replace H := Option.bind_eq_some_iff.mp H
    obtain ⟨⟨t335, t336⟩, A130, H⟩ := H
    replace H : (some (wrap64 ((wrap64 ((wrap64 ((wrap64 (t333 - 6)) * 32400000)) + t335)) - 2), t336)) = some (r1, r2) := H
    have A13 := Aside0.mk A130
    clear A130
    simp only [Option.some.injEq, Prod.mk.injEq] at H
    obtain ⟨rfl, rfl⟩ := H
    go_enter Try.func78, Try.ntmps78
    go_wp2_with (first | ((with_reducible refine gate_callee (f := 53) rfl ?_); refine gL 4 Try.func53 #[.pointer (some ⟨g, 0, none⟩), .int .i64 6] ?_; (with_reducible refine (spec_l6Rd_pick.calls k g s0_0 s0_1 6 t327 t328 w0 _ ?side1 ?side2 A2.out).mono ?_); (case side1 => exact IsS70.go_ HI0); (case side2 => exact hsI_ HB); rintro e w14 ⟨rfl, hi, hb, hk⟩; refine ⟨_, rfl, ?_⟩; replace HK := Aside0.mk (KeepBut.trans (hk_ HK) hk (.inl rfl)); replace HB := Aside0.mk (hb); replace HI0 := Aside0.mk (hi); clear hi hb hk) | ((with_reducible refine gate_callee (f := 53) rfl ?_); refine gL 21 Try.func53 #[.pointer (some ⟨g, 0, none⟩), .int .i64 13] ?_; (with_reducible refine (spec_l6Rd_pick.calls k g s0_0 t328 13 t333 t334 w0 _ ?side1 ?side2 A12.out).mono ?_); (case side1 => exact IsS70.go_ HI0); (case side2 => exact hsI_ HB); rintro e w15 ⟨rfl, hi, hb, hk⟩; refine ⟨_, rfl, ?_⟩; replace HK := Aside0.mk (KeepBut.trans (hk_ HK) hk (.inl rfl)); replace HB := Aside0.mk (hb); replace HI0 := Aside0.mk (hi); clear hi hb hk) | ((with_reducible refine gate_callee (f := 53) rfl ?_); refine gL 25 Try.func53 #[.pointer (some ⟨g, 0, none⟩), .int .i64 5] ?_; (with_reducible refine (spec_l6Rd_pick.calls k g s0_0 t334 5 t335 t336 w0 _ ?side1 ?side2 A13.out).mono ?_); (case side1 => exact IsS70.go_ HI0); (case side2 => exact hsI_ HB); rintro e w16 ⟨rfl, hi, hb, hk⟩; refine ⟨_, rfl, ?_⟩; replace HK := Aside0.mk (KeepBut.trans (hk_ HK) hk (.inl rfl)); replace HB := Aside0.mk (hb); replace HI0 := Aside0.mk (hi); clear hi hb hk))
    go_ret
    exact ⟨by first | rfl | (simp [errW_none, errW_some] <;> rfl) | (simp [*, errW_none, errW_some] <;> rfl), IsS70.go_ HI0, hsI_ HB, hk_ HK⟩
   ·rw [if_neg c11] at H
    have c11b0 : (t327 == 2) = false := beq_eq_false_iff_ne.mpr c11
    have c11b1 : (t327 != 2) = true := bne_iff_ne.mpr c11
    replace H := Option.bind_eq_some_iff.mp H
    obtain ⟨⟨t337, t338⟩, A170, H⟩ := H
    replace H : (some (t337, t338)) = some (r1, r2) := H
    have A17 := Aside0.mk A170
    clear A170
    simp only [Option.some.injEq, Prod.mk.injEq] at H
    obtain ⟨rfl, rfl⟩ := H
    go_enter Try.func78, Try.ntmps78
    go_wp2_with (first | ((with_reducible refine gate_callee (f := 53) rfl ?_); refine gL 4 Try.func53 #[.pointer (some ⟨g, 0, none⟩), .int .i64 6] ?_; (with_reducible refine (spec_l6Rd_pick.calls k g s0_0 s0_1 6 t327 t328 w0 _ ?side1 ?side2 A2.out).mono ?_); (case side1 => exact IsS70.go_ HI0); (case side2 => exact hsI_ HB); rintro e w18 ⟨rfl, hi, hb, hk⟩; refine ⟨_, rfl, ?_⟩; replace HK := Aside0.mk (KeepBut.trans (hk_ HK) hk (.inl rfl)); replace HB := Aside0.mk (hb); replace HI0 := Aside0.mk (hi); clear hi hb hk) | ((with_reducible refine gate_callee (f := 52) rfl ?_); refine gL 29 Try.func52 #[.pointer (some ⟨g, 0, none⟩), .int .i64 129600000] ?_; (with_reducible refine (spec_l71Big.calls k g s0_0 t328 129600000 t337 t338 w0 _ ?side1 ?side2 A17.out).mono ?_); (case side1 => exact IsS70.go_ HI0); (case side2 => exact hsI_ HB); rintro e w19 ⟨rfl, hi, hb, hk⟩; refine ⟨_, rfl, ?_⟩; replace HK := Aside0.mk (KeepBut.trans (hk_ HK) hk (.inl rfl)); replace HB := Aside0.mk (hb); replace HI0 := Aside0.mk (hi); clear hi hb hk))
    go_ret
    exact ⟨by first | rfl | (simp [errW_none, errW_some] <;> rfl) | (simp [*, errW_none, errW_some] <;> rfl), IsS70.go_ HI0, hsI_ HB, hk_ HK⟩


/-! ### spec_l71Wide: function 54 -/
def spec_l71Wide.f (k : Nat) (s0_0 : List Int) (s0_1 : Int) : Option (Int × Int) := (spec_l6Rd_pick.f k s0_0 s0_1 16).bind fun bt339 => (if bt339.1 = 0 then ((spec_l71Big.f k s0_0 bt339.2 1000000000000).bind fun bt341 => (some (bt341.1, bt341.2))) else (if bt339.1 = 1 then ((some (([1000000000000, 1000000000001, (-1000000000001)] : List Int) : List Int)).bind fun y343 => ((spec_l6Rd_pick.f k s0_0 bt339.2 3).bind fun bt346 => (if 0 ≤ bt346.1 then (if bt346.1 < (y343.length : Int) then (some (rd y343 bt346.1, bt346.2)) else (none)) else (none)))) else ((spec_l71Ang.f k s0_0 bt339.2).bind fun bt349 => (some (bt349.1, bt349.2)))))
theorem spec_l71Wide.mono : ∀ a0 a1 k, LeO (spec_l71Wide.f k a0 a1) (spec_l71Wide.f (k + 1) a0 a1) := by
 intro a0 a1 k
 unfold spec_l71Wide.f
 repeat' first
   | (with_reducible exact spec_l6Rd_pick.mono _ _ _ _)
   | (with_reducible exact spec_l71Ang.mono _ _ _)
   | (with_reducible exact spec_l71Big.mono _ _ _ _)
   | (with_reducible exact LeO.refl _)
   | (with_reducible exact LeO.none _)
   | (with_reducible refine LeO.ite ?_ ?_)
   | (with_reducible refine LeO.bind ?_ (fun _ => ?_))
   | exact spec_l6Rd_pick.mono _ _ _ _
   | exact spec_l71Ang.mono _ _ _
   | exact spec_l71Big.mono _ _ _ _
   | exact LeO.none _
   | refine LeO.ite ?_ ?_
   | refine LeO.bind ?_ (fun _ => ?_)
set_option maxHeartbeats 8000000 in
set_option maxRecDepth 100000 in
theorem spec_l71Wide.calls (k : Nat) (g : Nat) (s0_0 : List Int) (s0_1 : Int) (r1 : Int) (r2 : Int) (w0 w : World) (hI : IsS70 w0 w g s0_0 s0_1) (hB : Below w0.heap.size w0 w) (h : spec_l71Wide.f k s0_0 s0_1 = some (r1, r2)) :
  Calls Try.prog 54 #[.pointer (some ⟨g, 0, none⟩)] w fun e w' => e = .returned (.int .i64 r1) ∧ IsS70 w0 w' g s0_0 r2 ∧ Below w0.heap.size w0 w' ∧ KeepBut w w' g none := by
 have HI0 := Aside0.mk hI
 have HK := Aside0.mk (KeepBut.refl w g none)
 have HL := Aside0.mk hB.size
 clear hI
 have HW0 := Aside0.mk hB.size
 have HB := Aside0.mk hB
 clear hB
 have H : ((spec_l6Rd_pick.f k s0_0 s0_1 16).bind fun bt339 => (if bt339.1 = 0 then ((spec_l71Big.f k s0_0 bt339.2 1000000000000).bind fun bt341 => (some (bt341.1, bt341.2))) else (if bt339.1 = 1 then ((some (([1000000000000, 1000000000001, (-1000000000001)] : List Int) : List Int)).bind fun y343 => ((spec_l6Rd_pick.f k s0_0 bt339.2 3).bind fun bt346 => (if 0 ≤ bt346.1 then (if bt346.1 < (y343.length : Int) then (some (rd y343 bt346.1, bt346.2)) else (none)) else (none)))) else ((spec_l71Ang.f k s0_0 bt339.2).bind fun bt349 => (some (bt349.1, bt349.2)))))) = some (r1, r2) := h
 clear h
 replace H := Option.bind_eq_some_iff.mp H
 obtain ⟨⟨t339, t340⟩, A20, H⟩ := H
 replace H : (if t339 = 0 then ((spec_l71Big.f k s0_0 t340 1000000000000).bind fun bt341 => (some (bt341.1, bt341.2))) else (if t339 = 1 then ((some (([1000000000000, 1000000000001, (-1000000000001)] : List Int) : List Int)).bind fun y343 => ((spec_l6Rd_pick.f k s0_0 t340 3).bind fun bt346 => (if 0 ≤ bt346.1 then (if bt346.1 < (y343.length : Int) then (some (rd y343 bt346.1, bt346.2)) else (none)) else (none)))) else ((spec_l71Ang.f k s0_0 t340).bind fun bt349 => (some (bt349.1, bt349.2))))) = some (r1, r2) := H
 have A2 := Aside0.mk A20
 clear A20
 by_cases c3 : t339 = 0
 ·rw [if_pos c3] at H
  have c3b0 : (t339 == 0) = true := beq_iff_eq.mpr c3
  have c3b1 : (t339 != 0) = false := bne_eq_false_iff_eq.mpr c3
  clear c3
  replace H := Option.bind_eq_some_iff.mp H
  obtain ⟨⟨t341, t342⟩, A40, H⟩ := H
  replace H : (some (t341, t342)) = some (r1, r2) := H
  have A4 := Aside0.mk A40
  clear A40
  simp only [Option.some.injEq, Prod.mk.injEq] at H
  obtain ⟨rfl, rfl⟩ := H
  go_enter Try.func54, Try.ntmps54
  go_wp2_with (first | ((with_reducible refine gate_callee (f := 53) rfl ?_); refine gL 4 Try.func53 #[.pointer (some ⟨g, 0, none⟩), .int .i64 16] ?_; (with_reducible refine (spec_l6Rd_pick.calls k g s0_0 s0_1 16 t339 t340 w0 _ ?side1 ?side2 A2.out).mono ?_); (case side1 => exact IsS70.go_ HI0); (case side2 => exact hsI_ HB); rintro e w5 ⟨rfl, hi, hb, hk⟩; refine ⟨_, rfl, ?_⟩; replace HK := Aside0.mk (KeepBut.trans (hk_ HK) hk (.inl rfl)); replace HB := Aside0.mk (hb); replace HI0 := Aside0.mk (hi); clear hi hb hk) | ((with_reducible refine gate_callee (f := 52) rfl ?_); refine gL 8 Try.func52 #[.pointer (some ⟨g, 0, none⟩), .int .i64 1000000000000] ?_; (with_reducible refine (spec_l71Big.calls k g s0_0 t340 1000000000000 t341 t342 w0 _ ?side1 ?side2 A4.out).mono ?_); (case side1 => exact IsS70.go_ HI0); (case side2 => exact hsI_ HB); rintro e w6 ⟨rfl, hi, hb, hk⟩; refine ⟨_, rfl, ?_⟩; replace HK := Aside0.mk (KeepBut.trans (hk_ HK) hk (.inl rfl)); replace HB := Aside0.mk (hb); replace HI0 := Aside0.mk (hi); clear hi hb hk))
  go_ret
  exact ⟨by first | rfl | (simp [errW_none, errW_some] <;> rfl) | (simp [*, errW_none, errW_some] <;> rfl), IsS70.go_ HI0, hsI_ HB, hk_ HK⟩
 ·rw [if_neg c3] at H
  have c3b0 : (t339 == 0) = false := beq_eq_false_iff_ne.mpr c3
  have c3b1 : (t339 != 0) = true := bne_iff_ne.mpr c3
  by_cases c7 : t339 = 1
  ·rw [if_pos c7] at H
   have c7b0 : (t339 == 1) = true := beq_iff_eq.mpr c7
   have c7b1 : (t339 != 1) = false := bne_eq_false_iff_eq.mpr c7
   clear c7
   obtain ⟨y343, hy343⟩ : ∃ y_ : List Int, y_ = (([1000000000000, 1000000000001, (-1000000000001)] : List Int)) := ⟨_, rfl⟩
   replace H : ((spec_l6Rd_pick.f k s0_0 t340 3).bind fun bt346 => (if 0 ≤ bt346.1 then (if bt346.1 < (y343.length : Int) then (some (rd y343 bt346.1, bt346.2)) else (none)) else (none))) = some (r1, r2) := by first | (rw [hy343]; with_reducible exact H) | (have H2_ := (Option.bind_some _ _).symm.trans H; rw [hy343]; with_reducible exact H2_) | (have H2_ := (Option.bind_some _ _).symm.trans H; with_reducible exact H2_) | with_reducible exact H | (rw [hy343]; exact H) | exact H
   have Ny343 := Aside0.mk hy343
   clear hy343
   replace H := Option.bind_eq_some_iff.mp H
   obtain ⟨⟨t346, t347⟩, A80, H⟩ := H
   replace H : (if 0 ≤ t346 then (if t346 < (y343.length : Int) then (some (rd y343 t346, t347)) else (none)) else (none)) = some (r1, r2) := H
   have A8 := Aside0.mk A80
   clear A80
   by_cases c9 : 0 ≤ t346
   ·rw [if_pos c9] at H
    have c9b0 : decide (0 ≤ t346) = true := decide_eq_true c9
    clear c9
    by_cases c10 : t346 < (y343.length : Int)
    ·rw [if_pos c10] at H
     have c10b0 : decide (t346 < (y343.length : Int)) = true := decide_eq_true c10
     clear c10
     simp only [Option.some.injEq, Prod.mk.injEq] at H
     obtain ⟨rfl, rfl⟩ := H
     go_enter Try.func54, Try.ntmps54
     go_wp2_with (first | ((with_reducible refine gate_callee (f := 53) rfl ?_); refine gL 4 Try.func53 #[.pointer (some ⟨g, 0, none⟩), .int .i64 16] ?_; (with_reducible refine (spec_l6Rd_pick.calls k g s0_0 s0_1 16 t339 t340 w0 _ ?side1 ?side2 A2.out).mono ?_); (case side1 => exact IsS70.go_ HI0); (case side2 => exact hsI_ HB); rintro e w11 ⟨rfl, hi, hb, hk⟩; refine ⟨_, rfl, ?_⟩; replace HK := Aside0.mk (KeepBut.trans (hk_ HK) hk (.inl rfl)); replace HB := Aside0.mk (hb); replace HI0 := Aside0.mk (hi); clear hi hb hk) | ((with_reducible refine gate_dst (N := 11) rfl ?_); refine Kd.R_lit (Kd.int .i64) _ 3 ?hg (N := 11) ?hd (xs := ([1000000000000, 1000000000001, (-1000000000001)] : List Int)) (inner := [.int .i64 1000000000000, .int .i64 1000000000001, .int .i64 (-1000000000001)]) (ok := fun _ => True) (okp := fun _ => True) ?hr ?hp (fun _ hk => hk) trivial (Below.refl _ _) (Nat.le_refl _) (by simp) ?_; (case hd => rfl); (case hg => rfl); (case hr => first | (go_simp; done) | (go_simp; rfl)); (case hp => exact (Reps.one (show Kd.M (Kd.int .i64) _ _ _ 1000000000000 [.int .i64 1000000000000] from rfl) (Reps.one (show Kd.M (Kd.int .i64) _ _ _ 1000000000001 [.int .i64 1000000000001] from rfl) (Reps.one (show Kd.M (Kd.int .i64) _ _ _ (-1000000000001) [.int .i64 (-1000000000001)] from rfl) (Reps.none _ _))))); intro v344 w12 ho13 hb hg_ hnew_; clear hg_ hnew_; (first | rw [← Ny343.out] at ho13 | (simp only [Int.reduceToNat] at ho13; rw [← Ny343.out] at ho13)); have HO345 := Aside0.mk (Kd.R_lower ho13 (keep_size (w := w) (g := g) (row := none) (hk_ HK))); replace HI0 := Aside0.mk (IsS70.below (IsS70.go_ HI0) hb); replace HK := Aside0.mk (KeepBut.trans (hk_ HK) (KeepBut.of_below hb g none) (.inl rfl)); replace HB := hbb (hsI_ HB) hb; clear hb ho13) | ((with_reducible refine gate_callee (f := 53) rfl ?_); refine gL 13 Try.func53 #[.pointer (some ⟨g, 0, none⟩), .int .i64 3] ?_; (with_reducible refine (spec_l6Rd_pick.calls k g s0_0 t340 3 t346 t347 w0 _ ?side1 ?side2 A8.out).mono ?_); (case side1 => exact IsS70.go_ HI0); (case side2 => exact hsI_ HB); rintro e w14 ⟨rfl, hi, hb, hk⟩; refine ⟨_, rfl, ?_⟩; replace HO345 := Aside0.mk (Kd.R_mono (Kd.R_keep (IsS70.apart (show IsS70 w0 _ g s0_0 t340 from IsS70.go_ HI0) (by (with_reducible repeat (first | apply Kd.R_alloc | apply Kd.R_drewN | apply Kd.R_drew)); exact HO345.out) (by decide)) hk (fun _ h => h.2)) (fun _ h => h.1)); replace HK := Aside0.mk (KeepBut.trans (hk_ HK) hk (.inl rfl)); replace HB := Aside0.mk (hb); replace HI0 := Aside0.mk (hi); clear hi hb hk; obtain ⟨Ao15, co15, eo15⟩ := Kd.R_slice HO345.out; subst eo15; have p348 : 0 ≤ (t346 : Int) := of_decide_eq_true (by first | (with_reducible assumption) | assumption); have q348 : t346 < (y343.length : Int) := of_decide_eq_true (by first | (with_reducible assumption) | assumption); obtain ⟨ad348, e348, hx348_0⟩ := Kd.at_int (Kd.R_reads' HO345.out).2.2 t346 p348 q348; cases e348; replace p348 := eq_true p348; replace q348 := eq_true q348))
     go_ret
     exact ⟨by first | rfl | (simp [errW_none, errW_some] <;> rfl) | (simp [*, errW_none, errW_some] <;> rfl), IsS70.go_ HI0, hsI_ HB, hk_ HK⟩
    ·rw [if_neg c10] at H
     exact absurd H (by simp)
   ·rw [if_neg c9] at H
    exact absurd H (by simp)
  ·rw [if_neg c7] at H
   have c7b0 : (t339 == 1) = false := beq_eq_false_iff_ne.mpr c7
   have c7b1 : (t339 != 1) = true := bne_iff_ne.mpr c7
   replace H := Option.bind_eq_some_iff.mp H
   obtain ⟨⟨t349, t350⟩, A160, H⟩ := H
   replace H : (some (t349, t350)) = some (r1, r2) := H
   have A16 := Aside0.mk A160
   clear A160
   simp only [Option.some.injEq, Prod.mk.injEq] at H
   obtain ⟨rfl, rfl⟩ := H
   go_enter Try.func54, Try.ntmps54
   go_wp2_with (first | ((with_reducible refine gate_callee (f := 53) rfl ?_); refine gL 4 Try.func53 #[.pointer (some ⟨g, 0, none⟩), .int .i64 16] ?_; (with_reducible refine (spec_l6Rd_pick.calls k g s0_0 s0_1 16 t339 t340 w0 _ ?side1 ?side2 A2.out).mono ?_); (case side1 => exact IsS70.go_ HI0); (case side2 => exact hsI_ HB); rintro e w17 ⟨rfl, hi, hb, hk⟩; refine ⟨_, rfl, ?_⟩; replace HK := Aside0.mk (KeepBut.trans (hk_ HK) hk (.inl rfl)); replace HB := Aside0.mk (hb); replace HI0 := Aside0.mk (hi); clear hi hb hk) | ((with_reducible refine gate_callee (f := 78) rfl ?_); refine gL 17 Try.func78 #[.pointer (some ⟨g, 0, none⟩)] ?_; (with_reducible refine (spec_l71Ang.calls k g s0_0 t340 t349 t350 w0 _ ?side1 ?side2 A16.out).mono ?_); (case side1 => exact IsS70.go_ HI0); (case side2 => exact hsI_ HB); rintro e w18 ⟨rfl, hi, hb, hk⟩; refine ⟨_, rfl, ?_⟩; replace HK := Aside0.mk (KeepBut.trans (hk_ HK) hk (.inl rfl)); replace HB := Aside0.mk (hb); replace HI0 := Aside0.mk (hi); clear hi hb hk))
   go_ret
   exact ⟨by first | rfl | (simp [errW_none, errW_some] <;> rfl) | (simp [*, errW_none, errW_some] <;> rfl), IsS70.go_ HI0, hsI_ HB, hk_ HK⟩


/-! ### spec_DrawTurnBy: function 26 -/
def spec_DrawTurnBy.f (k : Nat) (l0 : List Int) : Option (Int × Int × Int) := (spec_l6Open.f l0).bind fun bt351 => ((spec_l71Big.f k bt351.1 bt351.2 500000000).bind fun bt354 => ((spec_l6Rd_pick.f k bt351.1 bt354.2 20).bind fun bt356 => (if bt356.1 = 0 then ((spec_l71Big.f k bt351.1 bt356.2 500000000).bind fun bt358 => ((spec_l71Wide.f k bt351.1 bt358.2).bind fun bt360 => (some (500000001, bt358.1, bt360.1)))) else ((spec_l71Big.f k bt351.1 bt356.2 500000000).bind fun bt362 => ((spec_l71Wide.f k bt351.1 bt362.2).bind fun bt364 => (some (bt354.1, bt362.1, bt364.1)))))))
theorem spec_DrawTurnBy.mono : ∀ a0 k, LeO (spec_DrawTurnBy.f k a0) (spec_DrawTurnBy.f (k + 1) a0) := by
 intro a0 k
 unfold spec_DrawTurnBy.f
 repeat' first
   | (with_reducible exact spec_l6Rd_pick.mono _ _ _ _)
   | (with_reducible exact spec_l71Big.mono _ _ _ _)
   | (with_reducible exact spec_l71Wide.mono _ _ _)
   | (with_reducible exact LeO.refl _)
   | (with_reducible exact LeO.none _)
   | (with_reducible refine LeO.ite ?_ ?_)
   | (with_reducible refine LeO.bind ?_ (fun _ => ?_))
   | exact spec_l6Rd_pick.mono _ _ _ _
   | exact spec_l71Big.mono _ _ _ _
   | exact spec_l71Wide.mono _ _ _
   | exact LeO.none _
   | refine LeO.ite ?_ ?_
   | refine LeO.bind ?_ (fun _ => ?_)
set_option maxHeartbeats 8000000 in
set_option maxRecDepth 100000 in
theorem spec_DrawTurnBy.calls (k : Nat) (A0 : Option Addr) (c0 : Nat) (l0 : List Int) (r1 : Int) (r2 : Int) (r3 : Int) (w : World) (hr0 : Kd.C (Kd.int .u8) w A0 l0.length l0) (hc0 : l0.length ≤ c0) (h : spec_DrawTurnBy.f k l0 = some (r1, r2, r3)) :
  Calls Try.prog 26 #[.slice A0 l0.length c0] w fun e w' => e = .returned (.tuple #[.int .i64 r1, .int .i64 r2, .int .i64 r3]) ∧ Below w.heap.size w w' := by
 have HR0 := Aside0.mk hr0
 have HC0 := Aside0.mk hc0
 clear hr0 hc0
 have HB := Aside0.mk (Below.refl w.heap.size w)
 have H : ((spec_l6Open.f l0).bind fun bt351 => ((spec_l71Big.f k bt351.1 bt351.2 500000000).bind fun bt354 => ((spec_l6Rd_pick.f k bt351.1 bt354.2 20).bind fun bt356 => (if bt356.1 = 0 then ((spec_l71Big.f k bt351.1 bt356.2 500000000).bind fun bt358 => ((spec_l71Wide.f k bt351.1 bt358.2).bind fun bt360 => (some (500000001, bt358.1, bt360.1)))) else ((spec_l71Big.f k bt351.1 bt356.2 500000000).bind fun bt362 => ((spec_l71Wide.f k bt351.1 bt362.2).bind fun bt364 => (some (bt354.1, bt362.1, bt364.1)))))))) = some (r1, r2, r3) := h
 clear h
 replace H := Option.bind_eq_some_iff.mp H
 obtain ⟨⟨t351, t352⟩, A20, H⟩ := H
 replace H : ((spec_l71Big.f k t351 t352 500000000).bind fun bt354 => ((spec_l6Rd_pick.f k t351 bt354.2 20).bind fun bt356 => (if bt356.1 = 0 then ((spec_l71Big.f k t351 bt356.2 500000000).bind fun bt358 => ((spec_l71Wide.f k t351 bt358.2).bind fun bt360 => (some (500000001, bt358.1, bt360.1)))) else ((spec_l71Big.f k t351 bt356.2 500000000).bind fun bt362 => ((spec_l71Wide.f k t351 bt362.2).bind fun bt364 => (some (bt354.1, bt362.1, bt364.1))))))) = some (r1, r2, r3) := H
 have A2 := Aside0.mk A20
 clear A20
 replace H := Option.bind_eq_some_iff.mp H
 obtain ⟨⟨t354, t355⟩, A30, H⟩ := H
 replace H : ((spec_l6Rd_pick.f k t351 t355 20).bind fun bt356 => (if bt356.1 = 0 then ((spec_l71Big.f k t351 bt356.2 500000000).bind fun bt358 => ((spec_l71Wide.f k t351 bt358.2).bind fun bt360 => (some (500000001, bt358.1, bt360.1)))) else ((spec_l71Big.f k t351 bt356.2 500000000).bind fun bt362 => ((spec_l71Wide.f k t351 bt362.2).bind fun bt364 => (some (t354, bt362.1, bt364.1)))))) = some (r1, r2, r3) := H
 have A3 := Aside0.mk A30
 clear A30
 replace H := Option.bind_eq_some_iff.mp H
 obtain ⟨⟨t356, t357⟩, A40, H⟩ := H
 replace H : (if t356 = 0 then ((spec_l71Big.f k t351 t357 500000000).bind fun bt358 => ((spec_l71Wide.f k t351 bt358.2).bind fun bt360 => (some (500000001, bt358.1, bt360.1)))) else ((spec_l71Big.f k t351 t357 500000000).bind fun bt362 => ((spec_l71Wide.f k t351 bt362.2).bind fun bt364 => (some (t354, bt362.1, bt364.1))))) = some (r1, r2, r3) := H
 have A4 := Aside0.mk A40
 clear A40
 by_cases c5 : t356 = 0
 ·rw [if_pos c5] at H
  have c5b0 : (t356 == 0) = true := beq_iff_eq.mpr c5
  have c5b1 : (t356 != 0) = false := bne_eq_false_iff_eq.mpr c5
  clear c5
  replace H := Option.bind_eq_some_iff.mp H
  obtain ⟨⟨t358, t359⟩, A60, H⟩ := H
  replace H : ((spec_l71Wide.f k t351 t359).bind fun bt360 => (some (500000001, t358, bt360.1))) = some (r1, r2, r3) := H
  have A6 := Aside0.mk A60
  clear A60
  replace H := Option.bind_eq_some_iff.mp H
  obtain ⟨⟨t360, t361⟩, A70, H⟩ := H
  replace H : (some (500000001, t358, t360)) = some (r1, r2, r3) := H
  have A7 := Aside0.mk A70
  clear A70
  simp only [Option.some.injEq, Prod.mk.injEq] at H
  obtain ⟨rfl, rfl, rfl⟩ := H
  go_enter Try.func26, Try.ntmps26
  go_wp2_with (first | ((with_reducible refine gate_callee (f := 47) rfl ?_); refine gL 8 Try.func47 #[.slice A0 l0.length c0] ?_; (with_reducible refine (spec_l6Open.calls _ _ l0 t351 t352 w _ ?side1 ?side2 ?side3 A2.out).mono ?_); (case side1 => exact h0_ HB); (case side2 => exact HR0.out); (case side3 => exact HC0.out); rintro e w8 ⟨g353, rfl, hi, hb, hb2⟩; refine ⟨_, rfl, ?_⟩; have HI353 := Aside0.mk (hi); replace HB := Aside0.mk (hb); (try clear hb); (try clear hb2); (try clear hk); (try clear hi)) | ((with_reducible refine gate_callee (f := 52) rfl ?_); refine gL 10 Try.func52 #[.pointer (some ⟨g353, 0, none⟩), .int .i64 500000000] ?_; (with_reducible refine (spec_l71Big.calls k g353 t351 t352 500000000 t354 t355 w _ ?side1 ?side2 A3.out).mono ?_); (case side1 => exact IsS70.go_ HI353); (case side2 => exact hsI_ HB); rintro e w9 ⟨rfl, hi, hb, hk⟩; refine ⟨_, rfl, ?_⟩; replace HB := Aside0.mk (hb); replace HI353 := Aside0.mk (hi); clear hi hb hk) | ((with_reducible refine gate_callee (f := 53) rfl ?_); refine gL 12 Try.func53 #[.pointer (some ⟨g353, 0, none⟩), .int .i64 20] ?_; (with_reducible refine (spec_l6Rd_pick.calls k g353 t351 t355 20 t356 t357 w _ ?side1 ?side2 A4.out).mono ?_); (case side1 => exact IsS70.go_ HI353); (case side2 => exact hsI_ HB); rintro e w10 ⟨rfl, hi, hb, hk⟩; refine ⟨_, rfl, ?_⟩; replace HB := Aside0.mk (hb); replace HI353 := Aside0.mk (hi); clear hi hb hk) | ((with_reducible refine gate_callee (f := 52) rfl ?_); refine gL 16 Try.func52 #[.pointer (some ⟨g353, 0, none⟩), .int .i64 500000000] ?_; (with_reducible refine (spec_l71Big.calls k g353 t351 t357 500000000 t358 t359 w _ ?side1 ?side2 A6.out).mono ?_); (case side1 => exact IsS70.go_ HI353); (case side2 => exact hsI_ HB); rintro e w11 ⟨rfl, hi, hb, hk⟩; refine ⟨_, rfl, ?_⟩; replace HB := Aside0.mk (hb); replace HI353 := Aside0.mk (hi); clear hi hb hk) | ((with_reducible refine gate_callee (f := 54) rfl ?_); refine gL 18 Try.func54 #[.pointer (some ⟨g353, 0, none⟩)] ?_; (with_reducible refine (spec_l71Wide.calls k g353 t351 t359 t360 t361 w _ ?side1 ?side2 A7.out).mono ?_); (case side1 => exact IsS70.go_ HI353); (case side2 => exact hsI_ HB); rintro e w12 ⟨rfl, hi, hb, hk⟩; refine ⟨_, rfl, ?_⟩; replace HB := Aside0.mk (hb); replace HI353 := Aside0.mk (hi); clear hi hb hk))
  go_ret3
  exact ⟨by first | rfl | (simp [errW_none, errW_some] <;> rfl) | (simp [*, errW_none, errW_some] <;> rfl), hsI_ HB⟩
 ·rw [if_neg c5] at H
  have c5b0 : (t356 == 0) = false := beq_eq_false_iff_ne.mpr c5
  have c5b1 : (t356 != 0) = true := bne_iff_ne.mpr c5
  replace H := Option.bind_eq_some_iff.mp H
  obtain ⟨⟨t362, t363⟩, A130, H⟩ := H
  replace H : ((spec_l71Wide.f k t351 t363).bind fun bt364 => (some (t354, t362, bt364.1))) = some (r1, r2, r3) := H
  have A13 := Aside0.mk A130
  clear A130
  replace H := Option.bind_eq_some_iff.mp H
  obtain ⟨⟨t364, t365⟩, A140, H⟩ := H
  replace H : (some (t354, t362, t364)) = some (r1, r2, r3) := H
  have A14 := Aside0.mk A140
  clear A140
  simp only [Option.some.injEq, Prod.mk.injEq] at H
  obtain ⟨rfl, rfl, rfl⟩ := H
  go_enter Try.func26, Try.ntmps26
  go_wp2_with (first | ((with_reducible refine gate_callee (f := 47) rfl ?_); refine gL 8 Try.func47 #[.slice A0 l0.length c0] ?_; (with_reducible refine (spec_l6Open.calls _ _ l0 t351 t352 w _ ?side1 ?side2 ?side3 A2.out).mono ?_); (case side1 => exact h0_ HB); (case side2 => exact HR0.out); (case side3 => exact HC0.out); rintro e w15 ⟨g353, rfl, hi, hb, hb2⟩; refine ⟨_, rfl, ?_⟩; have HI353 := Aside0.mk (hi); replace HB := Aside0.mk (hb); (try clear hb); (try clear hb2); (try clear hk); (try clear hi)) | ((with_reducible refine gate_callee (f := 52) rfl ?_); refine gL 10 Try.func52 #[.pointer (some ⟨g353, 0, none⟩), .int .i64 500000000] ?_; (with_reducible refine (spec_l71Big.calls k g353 t351 t352 500000000 t354 t355 w _ ?side1 ?side2 A3.out).mono ?_); (case side1 => exact IsS70.go_ HI353); (case side2 => exact hsI_ HB); rintro e w16 ⟨rfl, hi, hb, hk⟩; refine ⟨_, rfl, ?_⟩; replace HB := Aside0.mk (hb); replace HI353 := Aside0.mk (hi); clear hi hb hk) | ((with_reducible refine gate_callee (f := 53) rfl ?_); refine gL 12 Try.func53 #[.pointer (some ⟨g353, 0, none⟩), .int .i64 20] ?_; (with_reducible refine (spec_l6Rd_pick.calls k g353 t351 t355 20 t356 t357 w _ ?side1 ?side2 A4.out).mono ?_); (case side1 => exact IsS70.go_ HI353); (case side2 => exact hsI_ HB); rintro e w17 ⟨rfl, hi, hb, hk⟩; refine ⟨_, rfl, ?_⟩; replace HB := Aside0.mk (hb); replace HI353 := Aside0.mk (hi); clear hi hb hk) | ((with_reducible refine gate_callee (f := 52) rfl ?_); refine gL 16 Try.func52 #[.pointer (some ⟨g353, 0, none⟩), .int .i64 500000000] ?_; (with_reducible refine (spec_l71Big.calls k g353 t351 t357 500000000 t362 t363 w _ ?side1 ?side2 A13.out).mono ?_); (case side1 => exact IsS70.go_ HI353); (case side2 => exact hsI_ HB); rintro e w18 ⟨rfl, hi, hb, hk⟩; refine ⟨_, rfl, ?_⟩; replace HB := Aside0.mk (hb); replace HI353 := Aside0.mk (hi); clear hi hb hk) | ((with_reducible refine gate_callee (f := 54) rfl ?_); refine gL 18 Try.func54 #[.pointer (some ⟨g353, 0, none⟩)] ?_; (with_reducible refine (spec_l71Wide.calls k g353 t351 t363 t364 t365 w _ ?side1 ?side2 A14.out).mono ?_); (case side1 => exact IsS70.go_ HI353); (case side2 => exact hsI_ HB); rintro e w19 ⟨rfl, hi, hb, hk⟩; refine ⟨_, rfl, ?_⟩; replace HB := Aside0.mk (hb); replace HI353 := Aside0.mk (hi); clear hi hb hk))
  go_ret3
  exact ⟨by first | rfl | (simp [errW_none, errW_some] <;> rfl) | (simp [*, errW_none, errW_some] <;> rfl), hsI_ HB⟩


end Go.Proofs.Ytcdgplkmahabiaa.M
