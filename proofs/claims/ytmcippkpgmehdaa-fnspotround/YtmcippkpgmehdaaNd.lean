import Derived.Test.YtmcippkpgmehdaaM0
import Derived.Test.YtmcippkpgmehdaaNa
import Derived.Test.YtmcippkpgmehdaaNc
namespace Go.Proofs.Ytmcippkpgmehdaa.M
open Go.RowKit Go.Proofs.YtmcippkpgmehdaaW.PrintWords Go.Proofs.YtmcippkpgmehdaaW.PrintLast Go.Proofs.YtmcippkpgmehdaaW.PrintMore
attribute [local go_sem] max2_int min2_int max_two min_two max_three min_three max_four min_four
attribute [local go_sem high] eqA42 eqA29 eqA24
attribute [local go_sem] fld42_0 fld42_1 fld29_0 fld29_1 fld24_0 fld24_1 fld38_0 fld38_1 fld88_0 fld88_1 fld88_2 fld88_3 fld88_4
set_option linter.unusedVariables false
set_option linter.unusedSimpArgs false

/-! ### spec_SineBack: function 63 -/
def spec_SineBack.f (k : Nat) (a0 : Int) : Option (Int × Int × Bool) := (spec_l6In.f a0 (-1000000000) 1000000000).bind fun t250 => (if t250 = true then ((spec_l13Ask_half.f k true a0 0 0 false (-32400000) 32400000).bind fun bt251 => ((spec_l13Ask_half.f k true a0 0 0 true (-32400000) 32400000).bind fun bt254 => (some (bt251.1, bt254.2, true)))) else (some (0, 0, false)))
set_option maxHeartbeats 8000000 in
set_option maxRecDepth 100000 in
theorem spec_SineBack.calls (k : Nat) (a0 : Int) (r1 : Int) (r2 : Int) (r3 : Bool) (w : World) (h : spec_SineBack.f k a0 = some (r1, r2, r3)) :
  Calls Try.prog 63 #[.int .i64 a0] w fun e w' => e = .returned (.tuple #[.agg #[.int .i64 r1, .int .i64 r2], .bool r3]) ∧ Below w.heap.size w w' := by
 have hu29 := Try.underlying29
 have hu88 := Try.underlying88
 have HB := Aside0.mk (Below.refl w.heap.size w)
 have H : ((spec_l6In.f a0 (-1000000000) 1000000000).bind fun t250 => (if t250 = true then ((spec_l13Ask_half.f k true a0 0 0 false (-32400000) 32400000).bind fun bt251 => ((spec_l13Ask_half.f k true a0 0 0 true (-32400000) 32400000).bind fun bt254 => (some (bt251.1, bt254.2, true)))) else (some (0, 0, false)))) = some (r1, r2, r3) := h
 clear h
 replace H := Option.bind_eq_some_iff.mp H
 obtain ⟨t250, A20, H⟩ := H
 try dsimp only at H
 have A2 := Aside0.mk A20
 clear A20
 by_cases c3 : t250 = true
 ·subst c3
  have H1 : ((spec_l13Ask_half.f k true a0 0 0 false (-32400000) 32400000).bind fun bt251 => ((spec_l13Ask_half.f k true a0 0 0 true (-32400000) 32400000).bind fun bt254 => (some (bt251.1, bt254.2, true)))) = some (r1, r2, r3) := by rw [if_pos rfl] at H; exact H
  clear H
  have H := H1
  clear H1
  replace H := Option.bind_eq_some_iff.mp H
  obtain ⟨⟨t251, t252⟩, A40, H⟩ := H
  try dsimp only at H
  have A4 := Aside0.mk A40
  clear A40
  replace H := Option.bind_eq_some_iff.mp H
  obtain ⟨⟨t254, t255⟩, A50, H⟩ := H
  try dsimp only at H
  have A5 := Aside0.mk A50
  clear A50
  simp only [Option.some.injEq, Prod.mk.injEq] at H
  obtain ⟨rfl, rfl, rfl⟩ := H
  go_enter Try.func63, Try.ntmps63
  go_wp2_with (first | ((with_reducible refine gate_dst (N := 2) rfl ?_); refine bE 2 #[.int .i64 0, .int .i64 0] 29 ?_; intro gb249 hg w6 hbox hb; have BK249 := Aside0.mk (hbox); have GE249 := gw hg (hz0 HB); have GW249 := GE249; replace HB := hbb (hz0 HB) hb; clear hb hbox hg) | ((with_reducible refine gate_callee (f := 55) rfl ?_); refine gL 7 Try.func55 #[.int .i64 a0, .int .i64 (-1000000000), .int .i64 1000000000] ?_; (with_reducible refine (spec_l6In.calls a0 (-1000000000) 1000000000 true _ A2.out).mono ?_); rintro e w' ⟨rfl, ⟨nd, rfl⟩⟩; refine ⟨_, rfl, ?_⟩; (try (rw [drewN_self w6]; generalize hq_ : World.drewN w6 _ = w6; have n0_ : Aside0 (w6.heap[gb249]? = some (.cells #[.int .i64 0, .int .i64 0] 29 (0, 0))) := ⟨by rw [← hq_]; exact (bk BK249)⟩; have n1_ : Aside0 (Below w.heap.size w w6) := ⟨by rw [← hq_]; exact (hzs HB)⟩; clear BK249 HB hq_; have BK249 := n0_; have HB := n1_; clear n0_ n1_))) | ((with_reducible refine gate_callee (f := 92) rfl ?_); refine gL 12 Try.func92 #[.agg #[.bool true, .int .i64 a0, .int .i64 0, .int .i64 0, .bool false], .int .i64 (-32400000), .int .i64 32400000] ?_; (with_reducible refine (spec_l13Ask_half.calls k true a0 0 0 false (-32400000) 32400000 t251 t252 _ A4.out).mono ?_); rintro e w7 ⟨rfl, hb⟩; refine ⟨_, rfl, ?_⟩; replace BK249 := bb (bk BK249) hb; replace HB := hbb (hzs HB) hb; clear hb) | ((with_reducible refine gate_dst (N := 4) rfl ?_); refine bE 4 #[.int .i64 0, .int .i64 0] 29 ?_; intro gb253 hg w8 hbox hb; have BK253 := Aside0.mk (hbox); have GE253 := gw hg (hzs HB); have NB249_253 := nl hg (bk BK249); have NB253_249 := ng hg (bk BK249); replace BK249 := bb (bk BK249) hb; replace HB := hbb (hzs HB) hb; clear hb hbox hg; have hnb9 := NB253_249.out; have hnc9 := NB249_253.out; obtain ⟨hcz10_0, hcz10_1, hfz10_0, hfz10_1⟩ := cz2 BK253) | ((with_reducible refine gate_callee (f := 92) rfl ?_); refine gL 15 Try.func92 #[.agg #[.bool true, .int .i64 a0, .int .i64 0, .int .i64 0, .bool true], .int .i64 (-32400000), .int .i64 32400000] ?_; (with_reducible refine (spec_l13Ask_half.calls k true a0 0 0 true (-32400000) 32400000 t254 t255 _ A5.out).mono ?_); rintro e w11 ⟨rfl, hb⟩; refine ⟨_, rfl, ?_⟩; replace BK249 := bb (bk1 BK249 NB249_253) hb; replace BK253 := bb (o := .cells #[.int .i64 t251, .int .i64 t252] 29 (0, 0)) (bkp BK253) hb; replace HB := hbb (hzs HB) hb; clear hb) | ((with_reducible refine gate_dst (N := 5) rfl ?_); refine bE 5 #[.int .i64 0, .int .i64 0] 29 ?_; intro gb256 hg w12 hbox hb; have BK256 := Aside0.mk (hbox); have GE256 := gw hg (hzs HB); have NB249_256 := nl hg (bk BK249); have NB256_249 := ng hg (bk BK249); have NB253_256 := nl hg (bk BK253); have NB256_253 := ng hg (bk BK253); replace BK249 := bb (bk BK249) hb; replace BK253 := bb (bk BK253) hb; replace HB := hbb (hzs HB) hb; clear hb hbox hg; have hnb13 := NB256_249.out; have hnc13 := NB249_256.out; have hnb14 := NB256_253.out; have hnc14 := NB253_256.out; obtain ⟨hcz15_0, hcz15_1, hfz15_0, hfz15_1⟩ := cz2 BK256; obtain ⟨hcz16_0, hcz16_1, hfz16_0, hfz16_1⟩ := cz2 BK253; obtain ⟨hcz17_0, hcz17_1, hfz17_0, hfz17_1⟩ := cz2 BK249))
  refine bodyPost_ret (results_ct rfl _ _ gb249 29 #[.int .i64 t251, .int .i64 t255] (0, 0) _ rfl (bkp BK249) Try.underlying29 rfl (by kernel_rfl)) rfl ?_
  exact ⟨by first | rfl | (simp [errW_none, errW_some] <;> rfl) | (simp [*, errW_none, errW_some] <;> rfl), hzs HB⟩
 ·replace c3 := Bool.eq_false_iff.mpr c3
  subst c3
  have H1 : (some (0, 0, false)) = some (r1, r2, r3) := by rw [if_neg (show ¬ (false = true) by decide)] at H; exact H
  clear H
  have H := H1
  clear H1
  simp only [Option.some.injEq, Prod.mk.injEq] at H
  obtain ⟨rfl, rfl, rfl⟩ := H
  go_enter Try.func63, Try.ntmps63
  go_wp2_with (first | ((with_reducible refine gate_dst (N := 2) rfl ?_); refine bE 2 #[.int .i64 0, .int .i64 0] 29 ?_; intro gb249 hg w18 hbox hb; have BK249 := Aside0.mk (hbox); have GE249 := gw hg (hz0 HB); have GW249 := GE249; replace HB := hbb (hz0 HB) hb; clear hb hbox hg) | ((with_reducible refine gate_callee (f := 55) rfl ?_); refine gL 7 Try.func55 #[.int .i64 a0, .int .i64 (-1000000000), .int .i64 1000000000] ?_; (with_reducible refine (spec_l6In.calls a0 (-1000000000) 1000000000 false _ A2.out).mono ?_); rintro e w' ⟨rfl, ⟨nd, rfl⟩⟩; refine ⟨_, rfl, ?_⟩; (try (rw [drewN_self w18]; generalize hq_ : World.drewN w18 _ = w18; have n0_ : Aside0 (w18.heap[gb249]? = some (.cells #[.int .i64 0, .int .i64 0] 29 (0, 0))) := ⟨by rw [← hq_]; exact (bk BK249)⟩; have n1_ : Aside0 (Below w.heap.size w w18) := ⟨by rw [← hq_]; exact (hzs HB)⟩; clear BK249 HB hq_; have BK249 := n0_; have HB := n1_; clear n0_ n1_)); obtain ⟨hcz19_0, hcz19_1, hfz19_0, hfz19_1⟩ := cz2 BK249))
  refine bodyPost_ret (results_ct rfl _ _ gb249 29 #[.int .i64 0, .int .i64 0] (0, 0) _ rfl (bkp BK249) Try.underlying29 rfl (by kernel_rfl)) rfl ?_
  exact ⟨by first | rfl | (simp [errW_none, errW_some] <;> rfl) | (simp [*, errW_none, errW_some] <;> rfl), hzs HB⟩


end Go.Proofs.Ytmcippkpgmehdaa.M
