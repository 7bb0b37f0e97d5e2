import Derived.Test.YtlodpfddimeffaaM0
import Derived.Test.YtlodpfddimeffaaMd
import Derived.Test.YtlodpfddimeffaaMh
namespace Go.Proofs.Ytlodpfddimeffaa.M
open Go.RowKit Go.Proofs.YtlodpfddimeffaaW.PrintWords Go.Proofs.YtlodpfddimeffaaW.PrintLast Go.Proofs.YtlodpfddimeffaaW.PrintMore
attribute [local go_sem] max2_int min2_int max_two min_two max_three min_three max_four min_four
attribute [local go_sem high] eqA31
attribute [local go_sem] fld31_0 fld31_1 fld25_0 fld25_1 fld25_2 fld25_3
set_option linter.unusedVariables false
set_option linter.unusedSimpArgs false

/-! ### impl_ExprRound: function 17 -/
def impl_ExprRound.f (k : Nat) (a0_0 : Int) (a0_1 : Int) (a0_2 : Int) (l0_3 : List (S25)) (a1 : Int) (a2 : Int) : Option (Int × Bool) := (impl_ExprSpan.f k a0_0 a0_1 a0_2 l0_3).bind fun bt466 => (if bt466.2.2 = true then ((impl_SureRound.f bt466.1 bt466.2.1 a1 a2).bind fun bt470 => (some (bt470.1, bt470.2))) else (some (0, false)))
set_option maxHeartbeats 8000000 in
set_option maxRecDepth 100000 in
theorem impl_ExprRound.calls (k : Nat) (a0_0 : Int) (a0_1 : Int) (a0_2 : Int) (A0_3 : Option Addr) (c0_3 : Nat) (l0_3 : List (S25)) (a1 : Int) (a2 : Int) (r1 : Int) (r2 : Bool) (w : World) (hr0_3 : Kd.C k25 w A0_3 l0_3.length l0_3) (hc0_3 : l0_3.length ≤ c0_3) (h : impl_ExprRound.f k a0_0 a0_1 a0_2 l0_3 a1 a2 = some (r1, r2)) :
  Calls Try.prog 17 #[.agg #[.int .i64 a0_0, .int .i64 a0_1, .int .i64 a0_2, .slice A0_3 l0_3.length c0_3], .int .i64 a1, .int .i64 a2] w fun e w' => e = .returned (.tuple #[.int .i64 r1, .bool r2]) ∧ Below w.heap.size w w' := by
 have hu25 := Try.underlying25
 have hu31 := Try.underlying31
 have HR0_3 := Aside0.mk hr0_3
 have HC0_3 := Aside0.mk hc0_3
 clear hr0_3 hc0_3
 have HB := Aside0.mk (Below.refl w.heap.size w)
 have H := h
 clear h
 unfold impl_ExprRound.f at H
 replace H := Option.bind_eq_some_iff.mp H
 obtain ⟨⟨t466, t467, t468⟩, A40, H⟩ := H
 try dsimp only at H
 have A4 := Aside0.mk A40
 clear A40
 by_cases c5 : t468 = true
 ·subst c5
  rw [if_pos rfl] at H
  replace H := Option.bind_eq_some_iff.mp H
  obtain ⟨⟨t470, t471⟩, A60, H⟩ := H
  try dsimp only at H
  have A6 := Aside0.mk A60
  clear A60
  simp only [Option.some.injEq, Prod.mk.injEq] at H
  obtain ⟨rfl, rfl⟩ := H
  go_enter Try.func17, Try.ntmps17
  go_wp2_with (first | ((with_reducible refine gate_dst (N := 3) rfl ?_); refine bE 3 #[.int .i64 a0_0, .int .i64 a0_1, .int .i64 a0_2, .slice A0_3 l0_3.length c0_3] 25 ?_; intro gb465 hg w7 hbox hb; have BK465 := Aside0.mk (hbox); have GE465 := gw hg (hz0 HB); have GW465 := GE465; replace HB := hbb (hz0 HB) hb; clear hb hbox hg; obtain ⟨hcz8_0, hcz8_1, hcz8_2, hcz8_3, hfz8_0, hfz8_1, hfz8_2, hfz8_3⟩ := cz4 BK465) | ((with_reducible refine gate_callee (f := 18) rfl ?_); refine gL 12 Try.func18 #[.agg #[.int .i64 a0_0, .int .i64 a0_1, .int .i64 a0_2, .slice A0_3 l0_3.length c0_3]] ?_; (with_reducible refine (impl_ExprSpan.calls k a0_0 a0_1 a0_2 _ _ l0_3 t466 t467 true _ ?side1 ?side2 A4.out).mono ?_); (case side1 => repeat (first | exact (Kd.C_below HR0_3.out HB.out) | (with_reducible refine Kd.C_alloc ?_ _) | (with_reducible refine Kd.C_drewN ?_ _) | (with_reducible refine Kd.C_drew ?_))); (case side2 => exact HC0_3.out); rintro e w9 ⟨rfl, hb⟩; refine ⟨_, rfl, ?_⟩; replace BK465 := bb (bk BK465) hb; replace HB := hbb (hzs HB) hb; clear hb) | ((with_reducible refine gate_dst (N := 8) rfl ?_); refine bE 8 #[.int .i64 0, .int .i64 0] 31 ?_; intro gb469 hg w10 hbox hb; have BK469 := Aside0.mk (hbox); have GE469 := gw hg (hzs HB); have GW469 := GE469; have NB465_469 := nl hg (bk BK465); have NB469_465 := ng hg (bk BK465); replace BK465 := bb (bk BK465) hb; replace HB := hbb (hzs HB) hb; clear hb hbox hg; have hnb11 := NB469_465.out; have hnc11 := NB465_469.out; obtain ⟨hcz12_0, hcz12_1, hfz12_0, hfz12_1⟩ := cz2 BK469) | ((with_reducible refine gate_callee (f := 19) rfl ?_); refine gL 20 Try.func19 #[.agg #[.int .i64 t466, .int .i64 t467], .int .i64 a1, .int .i64 a2] ?_; (with_reducible refine (impl_SureRound.calls t466 t467 a1 a2 t470 t471 _ A6.out).mono ?_); rintro e w13 ⟨rfl, hb⟩; refine ⟨_, rfl, ?_⟩; replace BK465 := bb (bk1 BK465 NB465_469) hb; replace BK469 := bb (o := .cells #[.int .i64 t466, .int .i64 t467] 31 (0, 0)) (bkp BK469) hb; replace HB := hbb (hzs HB) hb; clear hb))
  go_ret2
  exact ⟨by first | rfl | (simp [errW_none, errW_some] <;> rfl) | (simp [*, errW_none, errW_some] <;> rfl), hzs HB⟩
 ·replace c5 := Bool.eq_false_iff.mpr c5
  subst c5
  rw [if_neg (show ¬ (false = true) by decide)] at H
  simp only [Option.some.injEq, Prod.mk.injEq] at H
  obtain ⟨rfl, rfl⟩ := H
  go_enter Try.func17, Try.ntmps17
  go_wp2_with (first | ((with_reducible refine gate_dst (N := 3) rfl ?_); refine bE 3 #[.int .i64 a0_0, .int .i64 a0_1, .int .i64 a0_2, .slice A0_3 l0_3.length c0_3] 25 ?_; intro gb465 hg w14 hbox hb; have BK465 := Aside0.mk (hbox); have GE465 := gw hg (hz0 HB); have GW465 := GE465; replace HB := hbb (hz0 HB) hb; clear hb hbox hg; obtain ⟨hcz15_0, hcz15_1, hcz15_2, hcz15_3, hfz15_0, hfz15_1, hfz15_2, hfz15_3⟩ := cz4 BK465) | ((with_reducible refine gate_callee (f := 18) rfl ?_); refine gL 12 Try.func18 #[.agg #[.int .i64 a0_0, .int .i64 a0_1, .int .i64 a0_2, .slice A0_3 l0_3.length c0_3]] ?_; (with_reducible refine (impl_ExprSpan.calls k a0_0 a0_1 a0_2 _ _ l0_3 t466 t467 false _ ?side1 ?side2 A4.out).mono ?_); (case side1 => repeat (first | exact (Kd.C_below HR0_3.out HB.out) | (with_reducible refine Kd.C_alloc ?_ _) | (with_reducible refine Kd.C_drewN ?_ _) | (with_reducible refine Kd.C_drew ?_))); (case side2 => exact HC0_3.out); rintro e w16 ⟨rfl, hb⟩; refine ⟨_, rfl, ?_⟩; replace BK465 := bb (bk BK465) hb; replace HB := hbb (hzs HB) hb; clear hb) | ((with_reducible refine gate_dst (N := 8) rfl ?_); refine bE 8 #[.int .i64 0, .int .i64 0] 31 ?_; intro gb469 hg w17 hbox hb; have BK469 := Aside0.mk (hbox); have GE469 := gw hg (hzs HB); have GW469 := GE469; have NB465_469 := nl hg (bk BK465); have NB469_465 := ng hg (bk BK465); replace BK465 := bb (bk BK465) hb; replace HB := hbb (hzs HB) hb; clear hb hbox hg; have hnb18 := NB469_465.out; have hnc18 := NB465_469.out; obtain ⟨hcz19_0, hcz19_1, hfz19_0, hfz19_1⟩ := cz2 BK469))
  go_ret2
  exact ⟨by first | rfl | (simp [errW_none, errW_some] <;> rfl) | (simp [*, errW_none, errW_some] <;> rfl), hzs HB⟩


end Go.Proofs.Ytlodpfddimeffaa.M
