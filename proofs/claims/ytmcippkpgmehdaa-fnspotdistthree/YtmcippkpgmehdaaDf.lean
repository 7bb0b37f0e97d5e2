import Derived.Test.YtmcippkpgmehdaaM0
import Derived.Test.YtmcippkpgmehdaaDa
import Derived.Test.YtmcippkpgmehdaaDb
namespace Go.Proofs.Ytmcippkpgmehdaa.M
open Go.RowKit Go.Proofs.YtmcippkpgmehdaaW.PrintWords Go.Proofs.YtmcippkpgmehdaaW.PrintLast Go.Proofs.YtmcippkpgmehdaaW.PrintMore
attribute [local go_sem] max2_int min2_int max_two min_two max_three min_three max_four min_four
attribute [local go_sem high] eqA42 eqA29 eqA24
attribute [local go_sem] fld42_0 fld42_1 fld29_0 fld29_1 fld24_0 fld24_1 fld38_0 fld38_1 fld88_0 fld88_1 fld88_2 fld88_3 fld88_4
set_option linter.unusedVariables false
set_option linter.unusedSimpArgs false

/-! ### spec_DrawSpotFar: function 17 -/
def spec_DrawSpotFar.f (k : Nat) (l0 : List Int) : Option (Int × Int) := (spec_l6Open.f l0).bind fun bt152 => ((spec_l71Spot.f k bt152.1 bt152.2).bind fun bt155 => (some (bt155.1, bt155.2.1)))
set_option maxHeartbeats 8000000 in
set_option maxRecDepth 100000 in
theorem spec_DrawSpotFar.calls (k : Nat) (A0 : Option Addr) (c0 : Nat) (l0 : List Int) (r1 : Int) (r2 : Int) (w : World) (hr0 : Kd.C (Kd.int .u8) w A0 l0.length l0) (hc0 : l0.length ≤ c0) (h : spec_DrawSpotFar.f k l0 = some (r1, r2)) :
  Calls Try.prog 17 #[.slice A0 l0.length c0] w fun e w' => e = .returned (.agg #[.int .i64 r1, .int .i64 r2]) ∧ Below w.heap.size w w' := by
 have hu24 := Try.underlying24
 have HR0 := Aside0.mk hr0
 have HC0 := Aside0.mk hc0
 clear hr0 hc0
 have HB := Aside0.mk (Below.refl w.heap.size w)
 have H : ((spec_l6Open.f l0).bind fun bt152 => ((spec_l71Spot.f k bt152.1 bt152.2).bind fun bt155 => (some (bt155.1, bt155.2.1)))) = some (r1, r2) := h
 clear h
 replace H := Option.bind_eq_some_iff.mp H
 obtain ⟨⟨t152, t153⟩, A20, H⟩ := H
 replace H : ((spec_l71Spot.f k t152 t153).bind fun bt155 => (some (bt155.1, bt155.2.1))) = some (r1, r2) := H
 have A2 := Aside0.mk A20
 clear A20
 replace H := Option.bind_eq_some_iff.mp H
 obtain ⟨⟨t155, t156, t157⟩, A30, H⟩ := H
 replace H : (some (t155, t156)) = some (r1, r2) := H
 have A3 := Aside0.mk A30
 clear A30
 simp only [Option.some.injEq, Prod.mk.injEq] at H
 obtain ⟨rfl, rfl⟩ := H
 go_enter Try.func17, Try.ntmps17
 go_wp2_with (first | ((with_reducible refine gate_dst (N := 2) rfl ?_); refine bE 2 #[.int .i64 0, .int .i64 0] 24 ?_; intro gb151 hg w4 hbox hb; have BK151 := Aside0.mk (hbox); have GE151 := gw hg (h0_ HB); have GW151 := GE151; replace HB := hbb (h0_ HB) hb; clear hb hbox hg) | ((with_reducible refine gate_callee (f := 43) rfl ?_); refine gL 4 Try.func43 #[.slice A0 l0.length c0] ?_; (with_reducible refine (spec_l6Open.calls _ _ l0 t152 t153 w _ ?side1 ?side2 ?side3 A2.out).mono ?_); (case side1 => exact hs_ HB); (case side2 => exact HR0.out); (case side3 => exact HC0.out); rintro e w5 ⟨g154, rfl, hi, hb, hb2⟩; refine ⟨_, rfl, ?_⟩; have HI154 := Aside0.mk (hi); have NB154_151 := Aside0.mk (IsS80.ne_blk hi (blk_below (g := gb151) (o := .cells #[.int .i64 0, .int .i64 0] 24 (0, 0)) (bk BK151) hb2) (by decide)); have NB151_154 := Aside0.mk (Ne.symm (IsS80.ne_blk hi (blk_below (g := gb151) (o := .cells #[.int .i64 0, .int .i64 0] 24 (0, 0)) (bk BK151) hb2) (by decide))); replace BK151 := Aside0.mk (blk_below (g := gb151) (o := .cells #[.int .i64 0, .int .i64 0] 24 (0, 0)) (bk BK151) hb2); replace HB := Aside0.mk (hb); (try clear hb); (try clear hb2); (try clear hk); (try clear hi)) | ((with_reducible refine gate_callee (f := 42) rfl ?_); refine gL 5 Try.func42 #[.pointer (some ⟨g154, 0, none⟩)] ?_; (with_reducible refine (spec_l71Spot.calls k g154 t152 t153 t155 t156 t157 w _ ?side1 ?side2 A3.out).mono ?_); (case side1 => exact IsS80.go_ HI154); (case side2 => exact hsI_ HB); rintro e w6 ⟨rfl, hi, hb, hk⟩; refine ⟨_, rfl, ?_⟩; replace BK151 := kb hk (bk BK151) NB151_154; replace HB := Aside0.mk (hb); replace HI154 := Aside0.mk (hi); clear hi hb hk; have hnb7 := NB151_154.out; have hnc7 := NB154_151.out; obtain ⟨hcz8_0, hcz8_1, hfz8_0, hfz8_1⟩ := cz2 BK151))
 refine bodyPost_ret (results_cell_row rfl _ _ gb151 24 #[.int .i64 t155, .int .i64 t156] (0, 0) _ rfl (bkp BK151) Try.underlying24 rfl (by kernel_rfl)) rfl ?_
 exact ⟨by first | rfl | (simp [errW_none, errW_some] <;> rfl) | (simp [*, errW_none, errW_some] <;> rfl), hsI_ HB⟩


end Go.Proofs.Ytmcippkpgmehdaa.M
