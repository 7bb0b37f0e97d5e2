import Derived.Test.YtlodpfddimeffaaM0
import Derived.Test.YtlodpfddimeffaaNa
import Derived.Test.YtlodpfddimeffaaNc
namespace Go.Proofs.Ytlodpfddimeffaa.M
open Go.RowKit Go.Proofs.YtlodpfddimeffaaW.PrintWords Go.Proofs.YtlodpfddimeffaaW.PrintLast Go.Proofs.YtlodpfddimeffaaW.PrintMore
attribute [local go_sem] max2_int min2_int max_two min_two max_three min_three max_four min_four
attribute [local go_sem high] eqA31
attribute [local go_sem] fld31_0 fld31_1 fld25_0 fld25_1 fld25_2 fld25_3
set_option linter.unusedVariables false
set_option linter.unusedSimpArgs false

/-! ### spec_SpanAdd: function 78 -/
def spec_SpanAdd.f (a0_0 : Int) (a0_1 : Int) (a1_0 : Int) (a1_1 : Int) : Option (Int × Int × Bool) := (spec_SpanOk.f a0_0 a0_1).bind fun t197 => (if t197 = true then ((spec_SpanOk.f a1_0 a1_1).bind fun t198 => (if t198 = true then ((spec_l2Fit.f (wrap64 (a0_0 + a1_0)) (wrap64 (a0_1 + a1_1))).bind fun bt199 => (some (bt199.1, bt199.2.1, bt199.2.2))) else (some (0, 0, false)))) else (some (0, 0, false)))
set_option maxHeartbeats 8000000 in
set_option maxRecDepth 100000 in
theorem spec_SpanAdd.calls (a0_0 : Int) (a0_1 : Int) (a1_0 : Int) (a1_1 : Int) (r1 : Int) (r2 : Int) (r3 : Bool) (w : World) (h : spec_SpanAdd.f a0_0 a0_1 a1_0 a1_1 = some (r1, r2, r3)) :
  Calls Try.prog 78 #[.agg #[.int .i64 a0_0, .int .i64 a0_1], .agg #[.int .i64 a1_0, .int .i64 a1_1]] w fun e w' => e = .returned (.tuple #[.agg #[.int .i64 r1, .int .i64 r2], .bool r3]) ∧ Below w.heap.size w w' := by
 have hu31 := Try.underlying31
 have HB := Aside0.mk (Below.refl w.heap.size w)
 have H := h
 clear h
 unfold spec_SpanAdd.f at H
 replace H := Option.bind_eq_some_iff.mp H
 obtain ⟨t197, A30, H⟩ := H
 try dsimp only at H
 have A3 := Aside0.mk A30
 clear A30
 by_cases c4 : t197 = true
 ·subst c4
  rw [if_pos rfl] at H
  replace H := Option.bind_eq_some_iff.mp H
  obtain ⟨t198, A50, H⟩ := H
  try dsimp only at H
  have A5 := Aside0.mk A50
  clear A50
  by_cases c6 : t198 = true
  ·subst c6
   rw [if_pos rfl] at H
   replace H := Option.bind_eq_some_iff.mp H
   obtain ⟨⟨t199, t200, t201⟩, A70, H⟩ := H
   try dsimp only at H
   have A7 := Aside0.mk A70
   clear A70
   simp only [Option.some.injEq, Prod.mk.injEq] at H
   obtain ⟨rfl, rfl, rfl⟩ := H
   go_enter Try.func78, Try.ntmps78
   go_wp2_with (first | ((with_reducible refine gate_dst (N := 2) rfl ?_); refine bE 2 #[.int .i64 a0_0, .int .i64 a0_1] 31 ?_; intro gb194 hg w8 hbox hb; have BK194 := Aside0.mk (hbox); have GE194 := gw hg (hz0 HB); have GW194 := GE194; replace HB := hbb (hz0 HB) hb; clear hb hbox hg) | ((with_reducible refine gate_dst (N := 3) rfl ?_); refine bE 3 #[.int .i64 a1_0, .int .i64 a1_1] 31 ?_; intro gb195 hg w9 hbox hb; have BK195 := Aside0.mk (hbox); have GE195 := gw hg (hzs HB); have GW195 := GE195; have NB194_195 := nl hg (bk BK194); have NB195_194 := ng hg (bk BK194); replace BK194 := bb (bk BK194) hb; replace HB := hbb (hzs HB) hb; clear hb hbox hg) | ((with_reducible refine gate_dst (N := 4) rfl ?_); refine bE 4 #[.int .i64 0, .int .i64 0] 31 ?_; intro gb196 hg w10 hbox hb; have BK196 := Aside0.mk (hbox); have GE196 := gw hg (hzs HB); have GW196 := GE196; have NB194_196 := nl hg (bk BK194); have NB196_194 := ng hg (bk BK194); have NB195_196 := nl hg (bk BK195); have NB196_195 := ng hg (bk BK195); replace BK194 := bb (bk BK194) hb; replace BK195 := bb (bk BK195) hb; replace HB := hbb (hzs HB) hb; clear hb hbox hg; have hnb11 := NB194_195.out; have hnc11 := NB195_194.out; have hnb12 := NB194_196.out; have hnc12 := NB196_194.out; obtain ⟨hcz13_0, hcz13_1, hfz13_0, hfz13_1⟩ := cz2 BK194) | ((with_reducible refine gate_callee (f := 56) rfl ?_); refine gL 7 Try.func56 #[.agg #[.int .i64 a0_0, .int .i64 a0_1]] ?_; (with_reducible refine (spec_SpanOk.calls a0_0 a0_1 true _ A3.out).mono ?_); rintro e w14 ⟨rfl, hb⟩; refine ⟨_, rfl, ?_⟩; replace BK194 := bb (bk BK194) hb; replace BK195 := bb (bk BK195) hb; replace BK196 := bb (bk BK196) hb; replace HB := hbb (hzs HB) hb; clear hb; have hnb15 := NB195_196.out; have hnc15 := NB196_195.out; obtain ⟨hcz16_0, hcz16_1, hfz16_0, hfz16_1⟩ := cz2 BK195) | (go_at_call 56; (with_reducible refine (spec_SpanOk.calls a1_0 a1_1 true _ A5.out).mono ?_); rintro e w17 ⟨rfl, hb⟩; replace BK194 := bb (bk BK194) hb; replace BK195 := bb (bk BK195) hb; replace BK196 := bb (bk BK196) hb; replace HB := hbb (hzs HB) hb; clear hb; obtain ⟨hcz18_0, hcz18_1, hfz18_0, hfz18_1⟩ := cz2 BK194; obtain ⟨hcz19_0, hcz19_1, hfz19_0, hfz19_1⟩ := cz2 BK195) | ((with_reducible refine gate_callee (f := 94) rfl ?_); refine gL 25 Try.func94 #[.int .i64 (wrap64 (a0_0 + a1_0)), .int .i64 (wrap64 (a0_1 + a1_1))] ?_; (with_reducible refine (spec_l2Fit.calls (wrap64 (a0_0 + a1_0)) (wrap64 (a0_1 + a1_1)) t199 t200 t201 _ A7.out).mono ?_); rintro e w20 ⟨rfl, hb⟩; refine ⟨_, rfl, ?_⟩; replace BK194 := bb (bk BK194) hb; replace BK195 := bb (bk BK195) hb; replace BK196 := bb (bk BK196) hb; replace HB := hbb (hzs HB) hb; clear hb; obtain ⟨hcz21_0, hcz21_1, hfz21_0, hfz21_1⟩ := cz2 BK196))
   refine bodyPost_ret (results_ct rfl _ _ gb196 31 #[.int .i64 t199, .int .i64 t200] (0, 0) _ rfl (bkp BK196) Try.underlying31 rfl (by kernel_rfl)) rfl ?_
   exact ⟨by first | rfl | (simp [errW_none, errW_some] <;> rfl) | (simp [*, errW_none, errW_some] <;> rfl), hzs HB⟩
  ·replace c6 := Bool.eq_false_iff.mpr c6
   subst c6
   rw [if_neg (show ¬ (false = true) by decide)] at H
   simp only [Option.some.injEq, Prod.mk.injEq] at H
   obtain ⟨rfl, rfl, rfl⟩ := H
   go_enter Try.func78, Try.ntmps78
   go_wp2_with (first | ((with_reducible refine gate_dst (N := 2) rfl ?_); refine bE 2 #[.int .i64 a0_0, .int .i64 a0_1] 31 ?_; intro gb194 hg w22 hbox hb; have BK194 := Aside0.mk (hbox); have GE194 := gw hg (hz0 HB); have GW194 := GE194; replace HB := hbb (hz0 HB) hb; clear hb hbox hg) | ((with_reducible refine gate_dst (N := 3) rfl ?_); refine bE 3 #[.int .i64 a1_0, .int .i64 a1_1] 31 ?_; intro gb195 hg w23 hbox hb; have BK195 := Aside0.mk (hbox); have GE195 := gw hg (hzs HB); have GW195 := GE195; have NB194_195 := nl hg (bk BK194); have NB195_194 := ng hg (bk BK194); replace BK194 := bb (bk BK194) hb; replace HB := hbb (hzs HB) hb; clear hb hbox hg) | ((with_reducible refine gate_dst (N := 4) rfl ?_); refine bE 4 #[.int .i64 0, .int .i64 0] 31 ?_; intro gb196 hg w24 hbox hb; have BK196 := Aside0.mk (hbox); have GE196 := gw hg (hzs HB); have GW196 := GE196; have NB194_196 := nl hg (bk BK194); have NB196_194 := ng hg (bk BK194); have NB195_196 := nl hg (bk BK195); have NB196_195 := ng hg (bk BK195); replace BK194 := bb (bk BK194) hb; replace BK195 := bb (bk BK195) hb; replace HB := hbb (hzs HB) hb; clear hb hbox hg; have hnb25 := NB194_195.out; have hnc25 := NB195_194.out; have hnb26 := NB194_196.out; have hnc26 := NB196_194.out; obtain ⟨hcz27_0, hcz27_1, hfz27_0, hfz27_1⟩ := cz2 BK194) | ((with_reducible refine gate_callee (f := 56) rfl ?_); refine gL 7 Try.func56 #[.agg #[.int .i64 a0_0, .int .i64 a0_1]] ?_; (with_reducible refine (spec_SpanOk.calls a0_0 a0_1 true _ A3.out).mono ?_); rintro e w28 ⟨rfl, hb⟩; refine ⟨_, rfl, ?_⟩; replace BK194 := bb (bk BK194) hb; replace BK195 := bb (bk BK195) hb; replace BK196 := bb (bk BK196) hb; replace HB := hbb (hzs HB) hb; clear hb; have hnb29 := NB195_196.out; have hnc29 := NB196_195.out; obtain ⟨hcz30_0, hcz30_1, hfz30_0, hfz30_1⟩ := cz2 BK195) | (go_at_call 56; (with_reducible refine (spec_SpanOk.calls a1_0 a1_1 false _ A5.out).mono ?_); rintro e w31 ⟨rfl, hb⟩; replace BK194 := bb (bk BK194) hb; replace BK195 := bb (bk BK195) hb; replace BK196 := bb (bk BK196) hb; replace HB := hbb (hzs HB) hb; clear hb; obtain ⟨hcz32_0, hcz32_1, hfz32_0, hfz32_1⟩ := cz2 BK196))
   refine bodyPost_ret (results_ct rfl _ _ gb196 31 #[.int .i64 0, .int .i64 0] (0, 0) _ rfl (bkp BK196) Try.underlying31 rfl (by kernel_rfl)) rfl ?_
   exact ⟨by first | rfl | (simp [errW_none, errW_some] <;> rfl) | (simp [*, errW_none, errW_some] <;> rfl), hzs HB⟩
 ·replace c4 := Bool.eq_false_iff.mpr c4
  subst c4
  rw [if_neg (show ¬ (false = true) by decide)] at H
  simp only [Option.some.injEq, Prod.mk.injEq] at H
  obtain ⟨rfl, rfl, rfl⟩ := H
  go_enter Try.func78, Try.ntmps78
  go_wp2_with (first | ((with_reducible refine gate_dst (N := 2) rfl ?_); refine bE 2 #[.int .i64 a0_0, .int .i64 a0_1] 31 ?_; intro gb194 hg w33 hbox hb; have BK194 := Aside0.mk (hbox); have GE194 := gw hg (hz0 HB); have GW194 := GE194; replace HB := hbb (hz0 HB) hb; clear hb hbox hg) | ((with_reducible refine gate_dst (N := 3) rfl ?_); refine bE 3 #[.int .i64 a1_0, .int .i64 a1_1] 31 ?_; intro gb195 hg w34 hbox hb; have BK195 := Aside0.mk (hbox); have GE195 := gw hg (hzs HB); have GW195 := GE195; have NB194_195 := nl hg (bk BK194); have NB195_194 := ng hg (bk BK194); replace BK194 := bb (bk BK194) hb; replace HB := hbb (hzs HB) hb; clear hb hbox hg) | ((with_reducible refine gate_dst (N := 4) rfl ?_); refine bE 4 #[.int .i64 0, .int .i64 0] 31 ?_; intro gb196 hg w35 hbox hb; have BK196 := Aside0.mk (hbox); have GE196 := gw hg (hzs HB); have GW196 := GE196; have NB194_196 := nl hg (bk BK194); have NB196_194 := ng hg (bk BK194); have NB195_196 := nl hg (bk BK195); have NB196_195 := ng hg (bk BK195); replace BK194 := bb (bk BK194) hb; replace BK195 := bb (bk BK195) hb; replace HB := hbb (hzs HB) hb; clear hb hbox hg; have hnb36 := NB194_195.out; have hnc36 := NB195_194.out; have hnb37 := NB194_196.out; have hnc37 := NB196_194.out; obtain ⟨hcz38_0, hcz38_1, hfz38_0, hfz38_1⟩ := cz2 BK194) | ((with_reducible refine gate_callee (f := 56) rfl ?_); refine gL 7 Try.func56 #[.agg #[.int .i64 a0_0, .int .i64 a0_1]] ?_; (with_reducible refine (spec_SpanOk.calls a0_0 a0_1 false _ A3.out).mono ?_); rintro e w39 ⟨rfl, hb⟩; refine ⟨_, rfl, ?_⟩; replace BK194 := bb (bk BK194) hb; replace BK195 := bb (bk BK195) hb; replace BK196 := bb (bk BK196) hb; replace HB := hbb (hzs HB) hb; clear hb; have hnb40 := NB196_195.out; have hnc40 := NB195_196.out; obtain ⟨hcz41_0, hcz41_1, hfz41_0, hfz41_1⟩ := cz2 BK196))
  refine bodyPost_ret (results_ct rfl _ _ gb196 31 #[.int .i64 0, .int .i64 0] (0, 0) _ rfl (bkp BK196) Try.underlying31 rfl (by kernel_rfl)) rfl ?_
  exact ⟨by first | rfl | (simp [errW_none, errW_some] <;> rfl) | (simp [*, errW_none, errW_some] <;> rfl), hzs HB⟩


/-! ### spec_SpanSub: function 79 -/
def spec_SpanSub.f (a0_0 : Int) (a0_1 : Int) (a1_0 : Int) (a1_1 : Int) : Option (Int × Int × Bool) := (spec_SpanAdd.f a0_0 a0_1 (wrap64 (-a1_1)) (wrap64 (-a1_0))).bind fun bt205 => (some (bt205.1, bt205.2.1, bt205.2.2))
set_option maxHeartbeats 8000000 in
set_option maxRecDepth 100000 in
theorem spec_SpanSub.calls (a0_0 : Int) (a0_1 : Int) (a1_0 : Int) (a1_1 : Int) (r1 : Int) (r2 : Int) (r3 : Bool) (w : World) (h : spec_SpanSub.f a0_0 a0_1 a1_0 a1_1 = some (r1, r2, r3)) :
  Calls Try.prog 79 #[.agg #[.int .i64 a0_0, .int .i64 a0_1], .agg #[.int .i64 a1_0, .int .i64 a1_1]] w fun e w' => e = .returned (.tuple #[.agg #[.int .i64 r1, .int .i64 r2], .bool r3]) ∧ Below w.heap.size w w' := by
 have hu31 := Try.underlying31
 have HB := Aside0.mk (Below.refl w.heap.size w)
 have H := h
 clear h
 unfold spec_SpanSub.f at H
 replace H := Option.bind_eq_some_iff.mp H
 obtain ⟨⟨t205, t206, t207⟩, A30, H⟩ := H
 try dsimp only at H
 have A3 := Aside0.mk A30
 clear A30
 simp only [Option.some.injEq, Prod.mk.injEq] at H
 obtain ⟨rfl, rfl, rfl⟩ := H
 go_enter Try.func79, Try.ntmps79
 go_wp2_with (first | ((with_reducible refine gate_dst (N := 2) rfl ?_); refine bE 2 #[.int .i64 a0_0, .int .i64 a0_1] 31 ?_; intro gb202 hg w4 hbox hb; have BK202 := Aside0.mk (hbox); have GE202 := gw hg (hz0 HB); replace HB := hbb (hz0 HB) hb; clear hb hbox hg) | ((with_reducible refine gate_dst (N := 3) rfl ?_); refine bE 3 #[.int .i64 a1_0, .int .i64 a1_1] 31 ?_; intro gb203 hg w5 hbox hb; have BK203 := Aside0.mk (hbox); have GE203 := gw hg (hzs HB); have NB202_203 := nl hg (bk BK202); have NB203_202 := ng hg (bk BK202); replace BK202 := bb (bk BK202) hb; replace HB := hbb (hzs HB) hb; clear hb hbox hg) | ((with_reducible refine gate_dst (N := 4) rfl ?_); refine bE 4 #[.int .i64 0, .int .i64 0] 31 ?_; intro gb204 hg w6 hbox hb; have BK204 := Aside0.mk (hbox); have GE204 := gw hg (hzs HB); have NB202_204 := nl hg (bk BK202); have NB204_202 := ng hg (bk BK202); have NB203_204 := nl hg (bk BK203); have NB204_203 := ng hg (bk BK203); replace BK202 := bb (bk BK202) hb; replace BK203 := bb (bk BK203) hb; replace HB := hbb (hzs HB) hb; clear hb hbox hg; have hnb7 := NB202_203.out; have hnc7 := NB203_202.out; have hnb8 := NB202_204.out; have hnc8 := NB204_202.out; obtain ⟨hcz9_0, hcz9_1, hfz9_0, hfz9_1⟩ := cz2 BK202; have hnb10 := NB203_204.out; have hnc10 := NB204_203.out; obtain ⟨hcz11_0, hcz11_1, hfz11_0, hfz11_1⟩ := cz2 BK203) | ((with_reducible refine gate_callee (f := 78) rfl ?_); refine gL 14 Try.func78 #[.agg #[.int .i64 a0_0, .int .i64 a0_1], .agg #[.int .i64 (wrap64 (-a1_1)), .int .i64 (wrap64 (-a1_0))]] ?_; (with_reducible refine (spec_SpanAdd.calls a0_0 a0_1 (wrap64 (-a1_1)) (wrap64 (-a1_0)) t205 t206 t207 _ A3.out).mono ?_); rintro e w12 ⟨rfl, hb⟩; refine ⟨_, rfl, ?_⟩; replace BK202 := bb (bk BK202) hb; replace BK203 := bb (bk BK203) hb; replace BK204 := bb (bk BK204) hb; replace HB := hbb (hzs HB) hb; clear hb; obtain ⟨hcz13_0, hcz13_1, hfz13_0, hfz13_1⟩ := cz2 BK204))
 refine bodyPost_ret (results_ct rfl _ _ gb204 31 #[.int .i64 t205, .int .i64 t206] (0, 0) _ rfl (bkp BK204) Try.underlying31 rfl (by kernel_rfl)) rfl ?_
 exact ⟨by first | rfl | (simp [errW_none, errW_some] <;> rfl) | (simp [*, errW_none, errW_some] <;> rfl), hzs HB⟩


/-! ### spec_SpanMul: function 80 -/
def spec_SpanMul.j0 : Nat → Bool → Int → Int → Int → Int → Option (Int × Int × Bool)
 | 0, _, _, _, _, _ => none
 | k + 1, x15, x209000, x209001, x210000, x210001 => if x15 = true then (some (0, 0, false)) else ((spec_l2Four.f (wrap64 (x209000 * x210000)) (wrap64 (x209000 * x210001)) (wrap64 (x209001 * x210000)) (wrap64 (x209001 * x210001))).bind fun bt213 => ((spec_l1Down.f bt213.1 1000000000).bind fun t215 => ((spec_l1Up.f bt213.2 1000000000).bind fun t216 => ((spec_l2Fit.f t215 t216).bind fun bt217 => (some (bt217.1, bt217.2.1, bt217.2.2))))))
def spec_SpanMul.f (k : Nat) (a0_0 : Int) (a0_1 : Int) (a1_0 : Int) (a1_1 : Int) : Option (Int × Int × Bool) := (spec_SpanOk.f a0_0 a0_1).bind fun t211 => (if t211 = true then ((spec_SpanOk.f a1_0 a1_1).bind fun t212 => (spec_SpanMul.j0 k (!t212) a0_0 a0_1 a1_0 a1_1)) else (spec_SpanMul.j0 k true a0_0 a0_1 a1_0 a1_1))
set_option maxHeartbeats 8000000 in
set_option maxRecDepth 100000 in
theorem spec_SpanMul.calls (k : Nat) (a0_0 : Int) (a0_1 : Int) (a1_0 : Int) (a1_1 : Int) (r1 : Int) (r2 : Int) (r3 : Bool) (w : World) (h : spec_SpanMul.f k a0_0 a0_1 a1_0 a1_1 = some (r1, r2, r3)) :
  Calls Try.prog 80 #[.agg #[.int .i64 a0_0, .int .i64 a0_1], .agg #[.int .i64 a1_0, .int .i64 a1_1]] w fun e w' => e = .returned (.tuple #[.agg #[.int .i64 r1, .int .i64 r2], .bool r3]) ∧ Below w.heap.size w w' := by
 have hu31 := Try.underlying31
 have HB := Aside0.mk (Below.refl w.heap.size w)
 have H := h
 clear h
 unfold spec_SpanMul.f at H
 have HC3 := Aside0.mk H
 clear H
 go_enter Try.func80, Try.ntmps80
 go_upto_region 1 with (first | ((with_reducible refine gate_dst (N := 2) rfl ?_); refine bE 2 #[.int .i64 a0_0, .int .i64 a0_1] 31 ?_; intro gb208 hg w4 hbox hb; have BK208 := Aside0.mk (hbox); have GE208 := gw hg (hz0 HB); replace HB := hbb (hz0 HB) hb; clear hb hbox hg) | ((with_reducible refine gate_dst (N := 3) rfl ?_); refine bE 3 #[.int .i64 a1_0, .int .i64 a1_1] 31 ?_; intro gb209 hg w5 hbox hb; have BK209 := Aside0.mk (hbox); have GE209 := gw hg (hzs HB); have NB208_209 := nl hg (bk BK208); have NB209_208 := ng hg (bk BK208); replace BK208 := bb (bk BK208) hb; replace HB := hbb (hzs HB) hb; clear hb hbox hg) | ((with_reducible refine gate_dst (N := 4) rfl ?_); refine bE 4 #[.int .i64 0, .int .i64 0] 31 ?_; intro gb210 hg w6 hbox hb; have BK210 := Aside0.mk (hbox); have GE210 := gw hg (hzs HB); have NB208_210 := nl hg (bk BK208); have NB210_208 := ng hg (bk BK208); have NB209_210 := nl hg (bk BK209); have NB210_209 := ng hg (bk BK209); replace BK208 := bb (bk BK208) hb; replace BK209 := bb (bk BK209) hb; replace HB := hbb (hzs HB) hb; clear hb hbox hg))
 (try simp only [Act.put, List.setIfInBounds_toArray, List.set_cons_zero, List.set_cons_succ])
 go_cut [15] (fun v15 wc => ∃ (kq : Nat) (x15_2 : Bool), v15 = .bool x15_2 ∧ Aside0 (spec_SpanMul.j0 kq x15_2 a0_0 a0_1 a1_0 a1_1 = some (r1, r2, r3)) ∧ Aside0 (kq ≤ k) ∧ Aside0 (wc.heap[gb208]? = some (.cells #[.int .i64 a0_0, .int .i64 a0_1] 31 (0, 0))) ∧ Aside0 (wc.heap[gb209]? = some (.cells #[.int .i64 a1_0, .int .i64 a1_1] 31 (0, 0))) ∧ Aside0 (wc.heap[gb210]? = some (.cells #[.int .i64 0, .int .i64 0] 31 (0, 0))) ∧ Aside0 (Below w.heap.size w wc))
 case first =>
  have H := HC3.out
  clear HC3
  replace H := Option.bind_eq_some_iff.mp H
  obtain ⟨t211, A70, H⟩ := H
  try dsimp only at H
  have A7 := Aside0.mk A70
  clear A70
  by_cases c8 : t211 = true
  ·subst c8
   rw [if_pos rfl] at H
   replace H := Option.bind_eq_some_iff.mp H
   obtain ⟨t212, A90, H⟩ := H
   try dsimp only at H
   have A9 := Aside0.mk A90
   clear A90
   have H' := Aside0.mk H
   clear H
   have hnb10 := NB208_209.out
   have hnc10 := NB209_208.out
   have hnb11 := NB208_210.out
   have hnc11 := NB210_208.out
   obtain ⟨hcz12_0, hcz12_1, hfz12_0, hfz12_1⟩ := cz2 BK208
   go_wp2_with (first | ((with_reducible refine gate_callee (f := 56) rfl ?_); refine gL 9 Try.func56 #[.agg #[.int .i64 a0_0, .int .i64 a0_1]] ?_; (with_reducible refine (spec_SpanOk.calls a0_0 a0_1 true _ A7.out).mono ?_); rintro e w13 ⟨rfl, hb⟩; refine ⟨_, rfl, ?_⟩; replace BK208 := bb (bk BK208) hb; replace BK209 := bb (bk BK209) hb; replace BK210 := bb (bk BK210) hb; replace HB := hbb (hzs HB) hb; clear hb; have hnb14 := NB209_210.out; have hnc14 := NB210_209.out; obtain ⟨hcz15_0, hcz15_1, hfz15_0, hfz15_1⟩ := cz2 BK209) | (go_at_call 56; (with_reducible refine (spec_SpanOk.calls a1_0 a1_1 t212 _ A9.out).mono ?_); rintro e w16 ⟨rfl, hb⟩; replace BK208 := bb (bk BK208) hb; replace BK209 := bb (bk BK209) hb; replace BK210 := bb (bk BK210) hb; replace HB := hbb (hzs HB) hb; clear hb))
   go_meet
   case rel => exact ⟨_, (!t212), (by first | rfl | (simp; done) | (simp [*]; done)), H', ⟨by first | omega | exact Nat.le_refl _⟩, ⟨bk BK208⟩, ⟨bk BK209⟩, ⟨bk BK210⟩, ⟨hzs HB⟩⟩
  ·replace c8 := Bool.eq_false_iff.mpr c8
   subst c8
   rw [if_neg (show ¬ (false = true) by decide)] at H
   have H' := Aside0.mk H
   clear H
   have hnb17 := NB208_209.out
   have hnc17 := NB209_208.out
   have hnb18 := NB208_210.out
   have hnc18 := NB210_208.out
   obtain ⟨hcz19_0, hcz19_1, hfz19_0, hfz19_1⟩ := cz2 BK208
   go_wp2_with (first | ((with_reducible refine gate_callee (f := 56) rfl ?_); refine gL 9 Try.func56 #[.agg #[.int .i64 a0_0, .int .i64 a0_1]] ?_; (with_reducible refine (spec_SpanOk.calls a0_0 a0_1 false _ A7.out).mono ?_); rintro e w20 ⟨rfl, hb⟩; refine ⟨_, rfl, ?_⟩; replace BK208 := bb (bk BK208) hb; replace BK209 := bb (bk BK209) hb; replace BK210 := bb (bk BK210) hb; replace HB := hbb (hzs HB) hb; clear hb))
   go_meet
   case rel => exact ⟨_, (true), (by first | rfl | (simp; done) | (simp [*]; done)), H', ⟨by first | omega | exact Nat.le_refl _⟩, ⟨bk BK208⟩, ⟨bk BK209⟩, ⟨bk BK210⟩, ⟨hzs HB⟩⟩
 case rest =>
  clear HC3
  try clear c1
  try clear p2
  try clear c5
  try clear c8
  try clear c10
  try clear c11
  try clear c14
  try clear c17
  try clear c18
  try clear hcz12_0 hcz12_1
  try clear hcz15_0 hcz15_1
  try clear hcz19_0 hcz19_1
  try clear hfz12_0 hfz12_1
  try clear hfz15_0 hfz15_1
  try clear hfz19_0 hfz19_1
  obtain ⟨kq, x15_2, rfl, HA, HJ2, BK208, BK209, BK210, HB⟩ := hcut
  cases kq with
  | zero => exact absurd HA.out (by simp [spec_SpanMul.j0])
  | succ kj2 =>
   have H := HA.out
   clear HA
   simp only [spec_SpanMul.j0] at H
   by_cases c21 : x15_2 = true
   ·subst c21
    rw [if_pos rfl] at H
    simp only [Option.some.injEq, Prod.mk.injEq] at H
    obtain ⟨rfl, rfl, rfl⟩ := H
    have hnb22 := NB210_208.out
    have hnc22 := NB208_210.out
    have hnb23 := NB210_209.out
    have hnc23 := NB209_210.out
    obtain ⟨hcz24_0, hcz24_1, hfz24_0, hfz24_1⟩ := cz2 BK210
    go_wp2
    refine bodyPost_ret (results_ct rfl _ _ gb210 31 #[.int .i64 0, .int .i64 0] (0, 0) _ rfl (bkp BK210) Try.underlying31 rfl (by kernel_rfl)) rfl ?_
    exact ⟨by first | rfl | (simp [errW_none, errW_some] <;> rfl) | (simp [*, errW_none, errW_some] <;> rfl), hzs HB⟩
   ·replace c21 := Bool.eq_false_iff.mpr c21
    subst c21
    rw [if_neg (show ¬ (false = true) by decide)] at H
    replace H := Option.bind_eq_some_iff.mp H
    obtain ⟨⟨t213, t214⟩, A250, H⟩ := H
    try dsimp only at H
    have A25 := Aside0.mk A250
    clear A250
    replace H := Option.bind_eq_some_iff.mp H
    obtain ⟨t215, A260, H⟩ := H
    try dsimp only at H
    have A26 := Aside0.mk A260
    clear A260
    replace H := Option.bind_eq_some_iff.mp H
    obtain ⟨t216, A270, H⟩ := H
    try dsimp only at H
    have A27 := Aside0.mk A270
    clear A270
    replace H := Option.bind_eq_some_iff.mp H
    obtain ⟨⟨t217, t218, t219⟩, A280, H⟩ := H
    try dsimp only at H
    have A28 := Aside0.mk A280
    clear A280
    simp only [Option.some.injEq, Prod.mk.injEq] at H
    obtain ⟨rfl, rfl, rfl⟩ := H
    have hnb29 := NB208_209.out
    have hnc29 := NB209_208.out
    have hnb30 := NB208_210.out
    have hnc30 := NB210_208.out
    obtain ⟨hcz31_0, hcz31_1, hfz31_0, hfz31_1⟩ := cz2 BK208
    have hnb32 := NB209_210.out
    have hnc32 := NB210_209.out
    obtain ⟨hcz33_0, hcz33_1, hfz33_0, hfz33_1⟩ := cz2 BK209
    go_wp2_with (first | ((with_reducible refine gate_callee (f := 99) rfl ?_); refine gL 38 Try.func99 #[.int .i64 (wrap64 (a0_0 * a1_0)), .int .i64 (wrap64 (a0_0 * a1_1)), .int .i64 (wrap64 (a0_1 * a1_0)), .int .i64 (wrap64 (a0_1 * a1_1))] ?_; (with_reducible refine (spec_l2Four.calls (wrap64 (a0_0 * a1_0)) (wrap64 (a0_0 * a1_1)) (wrap64 (a0_1 * a1_0)) (wrap64 (a0_1 * a1_1)) t213 t214 _ A25.out).mono ?_); rintro e w34 ⟨rfl, hb⟩; refine ⟨_, rfl, ?_⟩; replace BK208 := bb (bk BK208) hb; replace BK209 := bb (bk BK209) hb; replace BK210 := bb (bk BK210) hb; replace HB := hbb (hzs HB) hb; clear hb) | ((with_reducible refine gate_callee (f := 83) rfl ?_); refine gL 42 Try.func83 #[.int .i64 t213, .int .i64 1000000000] ?_; (with_reducible refine (spec_l1Down.calls t213 1000000000 t215 _ A26.out).mono ?_); rintro e w' ⟨rfl, ⟨nd, rfl⟩⟩; refine ⟨_, rfl, ?_⟩; (try (rw [drewN_self w34]; generalize hq_ : World.drewN w34 _ = w34; have n0_ : Aside0 (w34.heap[gb208]? = some (.cells #[.int .i64 a0_0, .int .i64 a0_1] 31 (0, 0))) := ⟨by rw [← hq_]; exact (bk BK208)⟩; have n1_ : Aside0 (w34.heap[gb209]? = some (.cells #[.int .i64 a1_0, .int .i64 a1_1] 31 (0, 0))) := ⟨by rw [← hq_]; exact (bk BK209)⟩; have n2_ : Aside0 (w34.heap[gb210]? = some (.cells #[.int .i64 0, .int .i64 0] 31 (0, 0))) := ⟨by rw [← hq_]; exact (bk BK210)⟩; have n3_ : Aside0 (Below w.heap.size w w34) := ⟨by rw [← hq_]; exact (hzs HB)⟩; clear BK208 BK209 BK210 HB hq_; have BK208 := n0_; have BK209 := n1_; have BK210 := n2_; have HB := n3_; clear n0_ n1_ n2_ n3_))) | ((with_reducible refine gate_callee (f := 84) rfl ?_); refine gL 44 Try.func84 #[.int .i64 t214, .int .i64 1000000000] ?_; (with_reducible refine (spec_l1Up.calls t214 1000000000 t216 _ A27.out).mono ?_); rintro e w' ⟨rfl, ⟨nd, rfl⟩⟩; refine ⟨_, rfl, ?_⟩; (try (rw [drewN_self w34]; generalize hq_ : World.drewN w34 _ = w34; have n0_ : Aside0 (w34.heap[gb208]? = some (.cells #[.int .i64 a0_0, .int .i64 a0_1] 31 (0, 0))) := ⟨by rw [← hq_]; exact (bk BK208)⟩; have n1_ : Aside0 (w34.heap[gb209]? = some (.cells #[.int .i64 a1_0, .int .i64 a1_1] 31 (0, 0))) := ⟨by rw [← hq_]; exact (bk BK209)⟩; have n2_ : Aside0 (w34.heap[gb210]? = some (.cells #[.int .i64 0, .int .i64 0] 31 (0, 0))) := ⟨by rw [← hq_]; exact (bk BK210)⟩; have n3_ : Aside0 (Below w.heap.size w w34) := ⟨by rw [← hq_]; exact (hzs HB)⟩; clear BK208 BK209 BK210 HB hq_; have BK208 := n0_; have BK209 := n1_; have BK210 := n2_; have HB := n3_; clear n0_ n1_ n2_ n3_))) | ((with_reducible refine gate_callee (f := 94) rfl ?_); refine gL 45 Try.func94 #[.int .i64 t215, .int .i64 t216] ?_; (with_reducible refine (spec_l2Fit.calls t215 t216 t217 t218 t219 _ A28.out).mono ?_); rintro e w35 ⟨rfl, hb⟩; refine ⟨_, rfl, ?_⟩; replace BK208 := bb (bk BK208) hb; replace BK209 := bb (bk BK209) hb; replace BK210 := bb (bk BK210) hb; replace HB := hbb (hzs HB) hb; clear hb; obtain ⟨hcz36_0, hcz36_1, hfz36_0, hfz36_1⟩ := cz2 BK210))
    refine bodyPost_ret (results_ct rfl _ _ gb210 31 #[.int .i64 t217, .int .i64 t218] (0, 0) _ rfl (bkp BK210) Try.underlying31 rfl (by kernel_rfl)) rfl ?_
    exact ⟨by first | rfl | (simp [errW_none, errW_some] <;> rfl) | (simp [*, errW_none, errW_some] <;> rfl), hzs HB⟩


end Go.Proofs.Ytlodpfddimeffaa.M
