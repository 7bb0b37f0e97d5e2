import Derived.Test.YtmcippkpgmehdaaM0
import Derived.Test.YtmcippkpgmehdaaDa
import Derived.Test.YtmcippkpgmehdaaDc
namespace Go.Proofs.Ytmcippkpgmehdaa.M
open Go.RowKit Go.Proofs.YtmcippkpgmehdaaW.PrintWords Go.Proofs.YtmcippkpgmehdaaW.PrintLast Go.Proofs.YtmcippkpgmehdaaW.PrintMore
attribute [local go_sem] max2_int min2_int max_two min_two max_three min_three max_four min_four
attribute [local go_sem high] eqA42 eqA29 eqA24
attribute [local go_sem] fld42_0 fld42_1 fld29_0 fld29_1 fld24_0 fld24_1 fld38_0 fld38_1 fld88_0 fld88_1 fld88_2 fld88_3 fld88_4
set_option linter.unusedVariables false
set_option linter.unusedSimpArgs false

/-! ### spec_DrawSpotDist: function 35 -/
def spec_DrawSpotDist.f (k : Nat) (l0 : List Int) : Option (Int × Int × Int × Int) := (spec_l6Open.f l0).bind fun bt318 => ((spec_l71Spots.f k bt318.1 bt318.2).bind fun bt321 => (some (bt321.1, bt321.2.1, bt321.2.2.1, bt321.2.2.2.1)))
set_option maxHeartbeats 8000000 in
set_option maxRecDepth 100000 in
theorem spec_DrawSpotDist.calls (k : Nat) (A0 : Option Addr) (c0 : Nat) (l0 : List Int) (r1 : Int) (r2 : Int) (r3 : Int) (r4 : Int) (w : World) (hr0 : Kd.C (Kd.int .u8) w A0 l0.length l0) (hc0 : l0.length ≤ c0) (h : spec_DrawSpotDist.f k l0 = some (r1, r2, r3, r4)) :
  Calls Try.prog 35 #[.slice A0 l0.length c0] w fun e w' => e = .returned (.tuple #[.agg #[.int .i64 r1, .int .i64 r2], .agg #[.int .i64 r3, .int .i64 r4]]) ∧ Below w.heap.size w w' := by
 have hu24 := Try.underlying24
 have HR0 := Aside0.mk hr0
 have HC0 := Aside0.mk hc0
 clear hr0 hc0
 have HB := Aside0.mk (Below.refl w.heap.size w)
 have H : ((spec_l6Open.f l0).bind fun bt318 => ((spec_l71Spots.f k bt318.1 bt318.2).bind fun bt321 => (some (bt321.1, bt321.2.1, bt321.2.2.1, bt321.2.2.2.1)))) = some (r1, r2, r3, r4) := h
 clear h
 replace H := Option.bind_eq_some_iff.mp H
 obtain ⟨⟨t318, t319⟩, A20, H⟩ := H
 replace H : ((spec_l71Spots.f k t318 t319).bind fun bt321 => (some (bt321.1, bt321.2.1, bt321.2.2.1, bt321.2.2.2.1))) = some (r1, r2, r3, r4) := H
 have A2 := Aside0.mk A20
 clear A20
 replace H := Option.bind_eq_some_iff.mp H
 obtain ⟨⟨t321, t322, t323, t324, t325⟩, A30, H⟩ := H
 replace H : (some (t321, t322, t323, t324)) = some (r1, r2, r3, r4) := H
 have A3 := Aside0.mk A30
 clear A30
 simp only [Option.some.injEq, Prod.mk.injEq] at H
 obtain ⟨rfl, rfl, rfl, rfl⟩ := H
 go_enter Try.func35, Try.ntmps35
 go_wp2_with (first | ((with_reducible refine gate_dst (N := 2) rfl ?_); refine bE 2 #[.int .i64 0, .int .i64 0] 24 ?_; intro gb316 hg w4 hbox hb; have BK316 := Aside0.mk (hbox); have GE316 := gw hg (h0_ HB); have GW316 := GE316; replace HB := hbb (h0_ HB) hb; clear hb hbox hg) | ((with_reducible refine gate_dst (N := 3) rfl ?_); refine bE 3 #[.int .i64 0, .int .i64 0] 24 ?_; intro gb317 hg w5 hbox hb; have BK317 := Aside0.mk (hbox); have GE317 := gw hg (hs_ HB); have GW317 := GE317; have NB316_317 := nl hg (bk BK316); have NB317_316 := ng hg (bk BK316); replace BK316 := bb (bk BK316) hb; replace HB := hbb (hs_ HB) hb; clear hb hbox hg) | ((with_reducible refine gate_callee (f := 43) rfl ?_); refine gL 5 Try.func43 #[.slice A0 l0.length c0] ?_; (with_reducible refine (spec_l6Open.calls _ _ l0 t318 t319 w _ ?side1 ?side2 ?side3 A2.out).mono ?_); (case side1 => exact hs_ HB); (case side2 => exact HR0.out); (case side3 => exact HC0.out); rintro e w6 ⟨g320, rfl, hi, hb, hb2⟩; refine ⟨_, rfl, ?_⟩; have HI320 := Aside0.mk (hi); have NB320_316 := Aside0.mk (IsS80.ne_blk hi (blk_below (g := gb316) (o := .cells #[.int .i64 0, .int .i64 0] 24 (0, 0)) (bk BK316) hb2) (by decide)); have NB316_320 := Aside0.mk (Ne.symm (IsS80.ne_blk hi (blk_below (g := gb316) (o := .cells #[.int .i64 0, .int .i64 0] 24 (0, 0)) (bk BK316) hb2) (by decide))); have NB320_317 := Aside0.mk (IsS80.ne_blk hi (blk_below (g := gb317) (o := .cells #[.int .i64 0, .int .i64 0] 24 (0, 0)) (bk BK317) hb2) (by decide)); have NB317_320 := Aside0.mk (Ne.symm (IsS80.ne_blk hi (blk_below (g := gb317) (o := .cells #[.int .i64 0, .int .i64 0] 24 (0, 0)) (bk BK317) hb2) (by decide))); replace BK316 := Aside0.mk (blk_below (g := gb316) (o := .cells #[.int .i64 0, .int .i64 0] 24 (0, 0)) (bk BK316) hb2); replace BK317 := Aside0.mk (blk_below (g := gb317) (o := .cells #[.int .i64 0, .int .i64 0] 24 (0, 0)) (bk BK317) hb2); replace HB := Aside0.mk (hb); (try clear hb); (try clear hb2); (try clear hk); (try clear hi)) | ((with_reducible refine gate_callee (f := 52) rfl ?_); refine gL 6 Try.func52 #[.pointer (some ⟨g320, 0, none⟩)] ?_; (with_reducible refine (spec_l71Spots.calls k g320 t318 t319 t321 t322 t323 t324 t325 w _ ?side1 ?side2 A3.out).mono ?_); (case side1 => exact IsS80.go_ HI320); (case side2 => exact hsI_ HB); rintro e w7 ⟨rfl, hi, hb, hk⟩; refine ⟨_, rfl, ?_⟩; replace BK316 := kb hk (bk BK316) NB316_320; replace BK317 := kb hk (bk BK317) NB317_320; replace HB := Aside0.mk (hb); replace HI320 := Aside0.mk (hi); clear hi hb hk; have hnb8 := NB316_317.out; have hnc8 := NB317_316.out; have hnb9 := NB316_320.out; have hnc9 := NB320_316.out; obtain ⟨hcz10_0, hcz10_1, hfz10_0, hfz10_1⟩ := cz2 BK316; have hnb11 := NB317_320.out; have hnc11 := NB320_317.out; obtain ⟨hcz12_0, hcz12_1, hfz12_0, hfz12_1⟩ := cz2 BK317))
 refine bodyPost_ret (results_cc rfl _ _ gb316 gb317 24 24 #[.int .i64 t321, .int .i64 t322] #[.int .i64 t323, .int .i64 t324] (0, 0) (0, 0) _ _ rfl (bkp BK316) Try.underlying24 rfl (by kernel_rfl) rfl (bkp BK317) Try.underlying24 rfl (by kernel_rfl)) rfl ?_
 exact ⟨by first | rfl | (simp [errW_none, errW_some] <;> rfl) | (simp [*, errW_none, errW_some] <;> rfl), hsI_ HB⟩


end Go.Proofs.Ytmcippkpgmehdaa.M
