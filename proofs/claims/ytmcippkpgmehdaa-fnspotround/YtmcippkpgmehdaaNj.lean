import Derived.Test.YtmcippkpgmehdaaM0
import Derived.Test.YtmcippkpgmehdaaNd
import Derived.Test.YtmcippkpgmehdaaNf
import Derived.Test.YtmcippkpgmehdaaNi
namespace Go.Proofs.Ytmcippkpgmehdaa.M
open Go.RowKit Go.Proofs.YtmcippkpgmehdaaW.PrintWords Go.Proofs.YtmcippkpgmehdaaW.PrintLast Go.Proofs.YtmcippkpgmehdaaW.PrintMore
attribute [local go_sem] max2_int min2_int max_two min_two max_three min_three max_four min_four
attribute [local go_sem high] eqA42 eqA29 eqA24
attribute [local go_sem] fld42_0 fld42_1 fld29_0 fld29_1 fld24_0 fld24_1 fld38_0 fld38_1 fld88_0 fld88_1 fld88_2 fld88_3 fld88_4
set_option linter.unusedVariables false
set_option linter.unusedSimpArgs false

/-! ### spec_SpotDist: function 36 -/
def spec_SpotDist.f (k : Nat) (a0_0 : Int) (a0_1 : Int) (a1_0 : Int) (a1_1 : Int) : Option (Int × Int × Bool) := (spec_SpotSquare.f k a0_0 a0_1 a1_0 a1_1).bind fun bt260 => (if bt260.2.2 = true then ((spec_SpanRoot.f k bt260.1 bt260.2.1).bind fun bt264 => ((spec_SineBack.f k (mn bt264.1 1000000000)).bind fun bt268 => ((spec_SineBack.f k (mn bt264.2.1 1000000000)).bind fun bt272 => (some (mx (wrap64 (2 * bt268.1)) 0, wrap64 (2 * bt272.2.1), true))))) else (some (0, 0, false)))
set_option maxHeartbeats 8000000 in
set_option maxRecDepth 100000 in
theorem spec_SpotDist.calls (k : Nat) (a0_0 : Int) (a0_1 : Int) (a1_0 : Int) (a1_1 : Int) (r1 : Int) (r2 : Int) (r3 : Bool) (w : World) (h : spec_SpotDist.f k a0_0 a0_1 a1_0 a1_1 = some (r1, r2, r3)) :
  Calls Try.prog 36 #[.agg #[.int .i64 a0_0, .int .i64 a0_1], .agg #[.int .i64 a1_0, .int .i64 a1_1]] w fun e w' => e = .returned (.tuple #[.agg #[.int .i64 r1, .int .i64 r2], .bool r3]) ∧ Below w.heap.size w w' := by
 have hu24 := Try.underlying24
 have hu29 := Try.underlying29
 have hu42 := Try.underlying42
 have HB := Aside0.mk (Below.refl w.heap.size w)
 have H : ((spec_SpotSquare.f k a0_0 a0_1 a1_0 a1_1).bind fun bt260 => (if bt260.2.2 = true then ((spec_SpanRoot.f k bt260.1 bt260.2.1).bind fun bt264 => ((spec_SineBack.f k (mn bt264.1 1000000000)).bind fun bt268 => ((spec_SineBack.f k (mn bt264.2.1 1000000000)).bind fun bt272 => (some (mx (wrap64 (2 * bt268.1)) 0, wrap64 (2 * bt272.2.1), true))))) else (some (0, 0, false)))) = some (r1, r2, r3) := h
 clear h
 replace H := Option.bind_eq_some_iff.mp H
 obtain ⟨⟨t260, t261, t262⟩, A30, H⟩ := H
 try dsimp only at H
 have A3 := Aside0.mk A30
 clear A30
 by_cases c4 : t262 = true
 ·subst c4
  have H1 : ((spec_SpanRoot.f k t260 t261).bind fun bt264 => ((spec_SineBack.f k (mn bt264.1 1000000000)).bind fun bt268 => ((spec_SineBack.f k (mn bt264.2.1 1000000000)).bind fun bt272 => (some (mx (wrap64 (2 * bt268.1)) 0, wrap64 (2 * bt272.2.1), true))))) = some (r1, r2, r3) := by rw [if_pos rfl] at H; exact H
  clear H
  have H := H1
  clear H1
  replace H := Option.bind_eq_some_iff.mp H
  obtain ⟨⟨t264, t265, t266⟩, A50, H⟩ := H
  try dsimp only at H
  have A5 := Aside0.mk A50
  clear A50
  obtain ⟨ji6, hji6⟩ : ∃ j_ : Int, (mn t264 1000000000) = j_ := ⟨_, rfl⟩
  replace H : ((spec_SineBack.f k (ji6)).bind fun bt268 => ((spec_SineBack.f k (mn t265 1000000000)).bind fun bt272 => (some (mx (wrap64 (2 * bt268.1)) 0, wrap64 (2 * bt272.2.1), true)))) = some (r1, r2, r3) := by first | (rw [hji6] at H; exact H) | (simp only [hji6] at H ⊢; exact H)
  (try rw [hji6] at A3)
  (try rw [hji6] at A5)
  (try (have hji6h : ji6 ≤ 1000000000 := by (rw [← hji6]; unfold mn; (repeat' split) <;> omega)))
  (try (have hji6g : ji6 ≤ 64 := by omega))
  have hji6_ : (if 1000000000 < t264 then 1000000000 else t264) = ji6 := hji6
  replace H := Option.bind_eq_some_iff.mp H
  obtain ⟨⟨t268, t269, t270⟩, A70, H⟩ := H
  try dsimp only at H
  have A7 := Aside0.mk A70
  clear A70
  obtain ⟨ji8, hji8⟩ : ∃ j_ : Int, (mn t265 1000000000) = j_ := ⟨_, rfl⟩
  replace H : ((spec_SineBack.f k (ji8)).bind fun bt272 => (some (mx (wrap64 (2 * t268)) 0, wrap64 (2 * bt272.2.1), true))) = some (r1, r2, r3) := by first | (rw [hji8] at H; exact H) | (simp only [hji8] at H ⊢; exact H)
  (try rw [hji8] at A3)
  (try rw [hji8] at A5)
  (try rw [hji8] at A7)
  (try (have hji8h : ji8 ≤ 1000000000 := by (rw [← hji8]; unfold mn; (repeat' split) <;> omega)))
  (try (have hji8g : ji8 ≤ 64 := by omega))
  have hji8_ : (if 1000000000 < t265 then 1000000000 else t265) = ji8 := hji8
  replace H := Option.bind_eq_some_iff.mp H
  obtain ⟨⟨t272, t273, t274⟩, A90, H⟩ := H
  try dsimp only at H
  have A9 := Aside0.mk A90
  clear A90
  obtain ⟨ji10, hji10⟩ : ∃ j_ : Int, (mx (wrap64 (2 * t268)) 0) = j_ := ⟨_, rfl⟩
  replace H : (some (ji10, wrap64 (2 * t273), true)) = some (r1, r2, r3) := by first | (rw [hji10] at H; exact H) | (simp only [hji10] at H ⊢; exact H)
  (try rw [hji10] at A3)
  (try rw [hji10] at A5)
  (try rw [hji10] at A7)
  (try rw [hji10] at A9)
  (try (have hji10l : 0 ≤ ji10 := by (rw [← hji10]; unfold mx; (repeat' split) <;> omega)))
  (try (have hji10m : 0 ≤ ji10 := by omega))
  have hji10_ : (if (wrap64 (2 * t268)) < 0 then 0 else (wrap64 (2 * t268))) = ji10 := hji10
  simp only [Option.some.injEq, Prod.mk.injEq] at H
  obtain ⟨rfl, rfl, rfl⟩ := H
  go_enter Try.func36, Try.ntmps36
  go_wp2_with (first | ((with_reducible refine gate_dst (N := 2) rfl ?_); refine bE 2 #[.int .i64 a0_0, .int .i64 a0_1] 24 ?_; intro gb257 hg w11 hbox hb; have BK257 := Aside0.mk (hbox); have GE257 := gw hg (hz0 HB); have GW257 := GE257; replace HB := hbb (hz0 HB) hb; clear hb hbox hg) | ((with_reducible refine gate_dst (N := 3) rfl ?_); refine bE 3 #[.int .i64 a1_0, .int .i64 a1_1] 24 ?_; intro gb258 hg w12 hbox hb; have BK258 := Aside0.mk (hbox); have GE258 := gw hg (hzs HB); have GW258 := GE258; have NB257_258 := nl hg (bk BK257); have NB258_257 := ng hg (bk BK257); replace BK257 := bb (bk BK257) hb; replace HB := hbb (hzs HB) hb; clear hb hbox hg) | ((with_reducible refine gate_dst (N := 4) rfl ?_); refine bE 4 #[.int .i64 0, .int .i64 0] 29 ?_; intro gb259 hg w13 hbox hb; have BK259 := Aside0.mk (hbox); have GE259 := gw hg (hzs HB); have GW259 := GE259; have NB257_259 := nl hg (bk BK257); have NB259_257 := ng hg (bk BK257); have NB258_259 := nl hg (bk BK258); have NB259_258 := ng hg (bk BK258); replace BK257 := bb (bk BK257) hb; replace BK258 := bb (bk BK258) hb; replace HB := hbb (hzs HB) hb; clear hb hbox hg; have hnb14 := NB257_258.out; have hnc14 := NB258_257.out; have hnb15 := NB257_259.out; have hnc15 := NB259_257.out; obtain ⟨hcz16_0, hcz16_1, hfz16_0, hfz16_1⟩ := cz2 BK257; have hnb17 := NB258_259.out; have hnc17 := NB259_258.out; obtain ⟨hcz18_0, hcz18_1, hfz18_0, hfz18_1⟩ := cz2 BK258) | ((with_reducible refine gate_callee (f := 31) rfl ?_); refine gL 17 Try.func31 #[.agg #[.int .i64 a0_0, .int .i64 a0_1], .agg #[.int .i64 a1_0, .int .i64 a1_1]] ?_; (with_reducible refine (spec_SpotSquare.calls k a0_0 a0_1 a1_0 a1_1 t260 t261 true _ A3.out).mono ?_); rintro e w19 ⟨rfl, hb⟩; refine ⟨_, rfl, ?_⟩; replace BK257 := bb (bk BK257) hb; replace BK258 := bb (bk BK258) hb; replace BK259 := bb (bk BK259) hb; replace HB := hbb (hzs HB) hb; clear hb) | ((with_reducible refine gate_dst (N := 6) rfl ?_); refine bE 6 #[.int .i64 0, .int .i64 0] 42 ?_; intro gb263 hg w20 hbox hb; have BK263 := Aside0.mk (hbox); have GE263 := gw hg (hzs HB); have GW263 := GE263; have NB257_263 := nl hg (bk BK257); have NB263_257 := ng hg (bk BK257); have NB258_263 := nl hg (bk BK258); have NB263_258 := ng hg (bk BK258); have NB259_263 := nl hg (bk BK259); have NB263_259 := ng hg (bk BK259); replace BK257 := bb (bk BK257) hb; replace BK258 := bb (bk BK258) hb; replace BK259 := bb (bk BK259) hb; replace HB := hbb (hzs HB) hb; clear hb hbox hg; have hnb21 := NB263_257.out; have hnc21 := NB257_263.out; have hnb22 := NB263_258.out; have hnc22 := NB258_263.out; have hnb23 := NB263_259.out; have hnc23 := NB259_263.out; obtain ⟨hcz24_0, hcz24_1, hfz24_0, hfz24_1⟩ := cz2 BK263) | ((with_reducible refine gate_callee (f := 62) rfl ?_); refine gL 25 Try.func62 #[.agg #[.int .i64 t260, .int .i64 t261]] ?_; (with_reducible refine (spec_SpanRoot.calls k t260 t261 t264 t265 t266 _ A5.out).mono ?_); rintro e w25 ⟨rfl, hb⟩; refine ⟨_, rfl, ?_⟩; replace BK257 := bb (bk1 BK257 NB257_263) hb; replace BK258 := bb (bk1 BK258 NB258_263) hb; replace BK259 := bb (bk1 BK259 NB259_263) hb; replace BK263 := bb (o := .cells #[.int .i64 t260, .int .i64 t261] 42 (0, 0)) (bkp BK263) hb; replace HB := hbb (hzs HB) hb; clear hb) | ((with_reducible refine gate_dst (N := 8) rfl ?_); refine bE 8 #[.int .i64 0, .int .i64 0] 42 ?_; intro gb267 hg w26 hbox hb; have BK267 := Aside0.mk (hbox); have GE267 := gw hg (hzs HB); have NB257_267 := nl hg (bk BK257); have NB267_257 := ng hg (bk BK257); have NB258_267 := nl hg (bk BK258); have NB267_258 := ng hg (bk BK258); have NB259_267 := nl hg (bk BK259); have NB267_259 := ng hg (bk BK259); have NB263_267 := nl hg (bk BK263); have NB267_263 := ng hg (bk BK263); replace BK257 := bb (bk BK257) hb; replace BK258 := bb (bk BK258) hb; replace BK259 := bb (bk BK259) hb; replace BK263 := bb (bk BK263) hb; replace HB := hbb (hzs HB) hb; clear hb hbox hg; have hnb27 := NB267_257.out; have hnc27 := NB257_267.out; have hnb28 := NB267_258.out; have hnc28 := NB258_267.out; have hnb29 := NB267_259.out; have hnc29 := NB259_267.out; have hnb30 := NB267_263.out; have hnc30 := NB263_267.out; obtain ⟨hcz31_0, hcz31_1, hfz31_0, hfz31_1⟩ := cz2 BK267) | ((with_reducible refine gate_callee (f := 63) rfl ?_); refine gL 32 Try.func63 #[.int .i64 ji6] (hargs := (by (try simp only [List.map_toArray, List.map_cons, List.map_nil]); first | done | (simp only [hji6]; rfl) | rfl | (simp only [List.length_drop, List.length_take]; rfl))) ?_; (with_reducible refine (spec_SineBack.calls k ji6 t268 t269 t270 _ A7.out).mono ?_); rintro e w32 ⟨rfl, hb⟩; refine ⟨_, rfl, ?_⟩; replace BK257 := bb (bk1 BK257 NB257_267) hb; replace BK258 := bb (bk1 BK258 NB258_267) hb; replace BK259 := bb (bk1 BK259 NB259_267) hb; replace BK263 := bb (bk1 BK263 NB263_267) hb; replace BK267 := bb (o := .cells #[.int .i64 t264, .int .i64 t265] 42 (0, 0)) (bkp BK267) hb; replace HB := hbb (hzs HB) hb; clear hb) | ((with_reducible refine gate_dst (N := 10) rfl ?_); refine bE 10 #[.int .i64 0, .int .i64 0] 29 ?_; intro gb271 hg w33 hbox hb; have BK271 := Aside0.mk (hbox); have GE271 := gw hg (hzs HB); have NB257_271 := nl hg (bk BK257); have NB271_257 := ng hg (bk BK257); have NB258_271 := nl hg (bk BK258); have NB271_258 := ng hg (bk BK258); have NB259_271 := nl hg (bk BK259); have NB271_259 := ng hg (bk BK259); have NB263_271 := nl hg (bk BK263); have NB271_263 := ng hg (bk BK263); have NB267_271 := nl hg (bk BK267); have NB271_267 := ng hg (bk BK267); replace BK257 := bb (bk BK257) hb; replace BK258 := bb (bk BK258) hb; replace BK259 := bb (bk BK259) hb; replace BK263 := bb (bk BK263) hb; replace BK267 := bb (bk BK267) hb; replace HB := hbb (hzs HB) hb; clear hb hbox hg; have hnb34 := NB271_257.out; have hnc34 := NB257_271.out; have hnb35 := NB271_258.out; have hnc35 := NB258_271.out; have hnb36 := NB271_259.out; have hnc36 := NB259_271.out; have hnb37 := NB271_263.out; have hnc37 := NB263_271.out; have hnb38 := NB271_267.out; have hnc38 := NB267_271.out; obtain ⟨hcz39_0, hcz39_1, hfz39_0, hfz39_1⟩ := cz2 BK271; obtain ⟨hcz40_0, hcz40_1, hfz40_0, hfz40_1⟩ := cz2 BK267) | ((with_reducible refine gate_callee (f := 63) rfl ?_); refine gL 39 Try.func63 #[.int .i64 ji8] (hargs := (by (try simp only [List.map_toArray, List.map_cons, List.map_nil]); first | done | (simp only [hji8]; rfl) | rfl | (simp only [List.length_drop, List.length_take]; rfl))) ?_; (with_reducible refine (spec_SineBack.calls k ji8 t272 t273 t274 _ A9.out).mono ?_); rintro e w41 ⟨rfl, hb⟩; refine ⟨_, rfl, ?_⟩; replace BK257 := bb (bk1 BK257 NB257_271) hb; replace BK258 := bb (bk1 BK258 NB258_271) hb; replace BK259 := bb (bk1 BK259 NB259_271) hb; replace BK263 := bb (bk1 BK263 NB263_271) hb; replace BK267 := bb (bk1 BK267 NB267_271) hb; replace BK271 := bb (o := .cells #[.int .i64 t268, .int .i64 t269] 29 (0, 0)) (bkp BK271) hb; replace HB := hbb (hzs HB) hb; clear hb) | ((with_reducible refine gate_dst (N := 12) rfl ?_); refine bE 12 #[.int .i64 0, .int .i64 0] 29 ?_; intro gb275 hg w42 hbox hb; have BK275 := Aside0.mk (hbox); have GE275 := gw hg (hzs HB); have NB257_275 := nl hg (bk BK257); have NB275_257 := ng hg (bk BK257); have NB258_275 := nl hg (bk BK258); have NB275_258 := ng hg (bk BK258); have NB259_275 := nl hg (bk BK259); have NB275_259 := ng hg (bk BK259); have NB263_275 := nl hg (bk BK263); have NB275_263 := ng hg (bk BK263); have NB267_275 := nl hg (bk BK267); have NB275_267 := ng hg (bk BK267); have NB271_275 := nl hg (bk BK271); have NB275_271 := ng hg (bk BK271); replace BK257 := bb (bk BK257) hb; replace BK258 := bb (bk BK258) hb; replace BK259 := bb (bk BK259) hb; replace BK263 := bb (bk BK263) hb; replace BK267 := bb (bk BK267) hb; replace BK271 := bb (bk BK271) hb; replace HB := hbb (hzs HB) hb; clear hb hbox hg; have hnb43 := NB275_257.out; have hnc43 := NB257_275.out; have hnb44 := NB275_258.out; have hnc44 := NB258_275.out; have hnb45 := NB275_259.out; have hnc45 := NB259_275.out; have hnb46 := NB275_263.out; have hnc46 := NB263_275.out; have hnb47 := NB275_267.out; have hnc47 := NB267_275.out; have hnb48 := NB275_271.out; have hnc48 := NB271_275.out; obtain ⟨hcz49_0, hcz49_1, hfz49_0, hfz49_1⟩ := cz2 BK275; obtain ⟨hcz50_0, hcz50_1, hfz50_0, hfz50_1⟩ := cz2 BK271; obtain ⟨hcz51_0, hcz51_1, hfz51_0, hfz51_1⟩ := cz2 BK259))
  refine bodyPost_ret (results_ct rfl _ _ gb259 29 #[.int .i64 ji10, .int .i64 (wrap64 (2 * t273))] (0, 0) _ rfl (bkp BK259) Try.underlying29 rfl (by kernel_rfl)) rfl ?_
  exact ⟨by first | rfl | (simp [errW_none, errW_some] <;> rfl) | (simp only [← hji6, ← hji8, ← hji10]; first | rfl | (simp [errW_none, errW_some] <;> rfl)) | (simp [*, errW_none, errW_some] <;> rfl), hzs HB⟩
 ·replace c4 := Bool.eq_false_iff.mpr c4
  subst c4
  have H1 : (some (0, 0, false)) = some (r1, r2, r3) := by rw [if_neg (show ¬ (false = true) by decide)] at H; exact H
  clear H
  have H := H1
  clear H1
  simp only [Option.some.injEq, Prod.mk.injEq] at H
  obtain ⟨rfl, rfl, rfl⟩ := H
  go_enter Try.func36, Try.ntmps36
  go_wp2_with (first | ((with_reducible refine gate_dst (N := 2) rfl ?_); refine bE 2 #[.int .i64 a0_0, .int .i64 a0_1] 24 ?_; intro gb257 hg w52 hbox hb; have BK257 := Aside0.mk (hbox); have GE257 := gw hg (hz0 HB); have GW257 := GE257; replace HB := hbb (hz0 HB) hb; clear hb hbox hg) | ((with_reducible refine gate_dst (N := 3) rfl ?_); refine bE 3 #[.int .i64 a1_0, .int .i64 a1_1] 24 ?_; intro gb258 hg w53 hbox hb; have BK258 := Aside0.mk (hbox); have GE258 := gw hg (hzs HB); have GW258 := GE258; have NB257_258 := nl hg (bk BK257); have NB258_257 := ng hg (bk BK257); replace BK257 := bb (bk BK257) hb; replace HB := hbb (hzs HB) hb; clear hb hbox hg) | ((with_reducible refine gate_dst (N := 4) rfl ?_); refine bE 4 #[.int .i64 0, .int .i64 0] 29 ?_; intro gb259 hg w54 hbox hb; have BK259 := Aside0.mk (hbox); have GE259 := gw hg (hzs HB); have GW259 := GE259; have NB257_259 := nl hg (bk BK257); have NB259_257 := ng hg (bk BK257); have NB258_259 := nl hg (bk BK258); have NB259_258 := ng hg (bk BK258); replace BK257 := bb (bk BK257) hb; replace BK258 := bb (bk BK258) hb; replace HB := hbb (hzs HB) hb; clear hb hbox hg; have hnb55 := NB257_258.out; have hnc55 := NB258_257.out; have hnb56 := NB257_259.out; have hnc56 := NB259_257.out; obtain ⟨hcz57_0, hcz57_1, hfz57_0, hfz57_1⟩ := cz2 BK257; have hnb58 := NB258_259.out; have hnc58 := NB259_258.out; obtain ⟨hcz59_0, hcz59_1, hfz59_0, hfz59_1⟩ := cz2 BK258) | ((with_reducible refine gate_callee (f := 31) rfl ?_); refine gL 17 Try.func31 #[.agg #[.int .i64 a0_0, .int .i64 a0_1], .agg #[.int .i64 a1_0, .int .i64 a1_1]] ?_; (with_reducible refine (spec_SpotSquare.calls k a0_0 a0_1 a1_0 a1_1 t260 t261 false _ A3.out).mono ?_); rintro e w60 ⟨rfl, hb⟩; refine ⟨_, rfl, ?_⟩; replace BK257 := bb (bk BK257) hb; replace BK258 := bb (bk BK258) hb; replace BK259 := bb (bk BK259) hb; replace HB := hbb (hzs HB) hb; clear hb) | ((with_reducible refine gate_dst (N := 6) rfl ?_); refine bE 6 #[.int .i64 0, .int .i64 0] 42 ?_; intro gb263 hg w61 hbox hb; have BK263 := Aside0.mk (hbox); have GE263 := gw hg (hzs HB); have GW263 := GE263; have NB257_263 := nl hg (bk BK257); have NB263_257 := ng hg (bk BK257); have NB258_263 := nl hg (bk BK258); have NB263_258 := ng hg (bk BK258); have NB259_263 := nl hg (bk BK259); have NB263_259 := ng hg (bk BK259); replace BK257 := bb (bk BK257) hb; replace BK258 := bb (bk BK258) hb; replace BK259 := bb (bk BK259) hb; replace HB := hbb (hzs HB) hb; clear hb hbox hg; have hnb62 := NB263_257.out; have hnc62 := NB257_263.out; have hnb63 := NB263_258.out; have hnc63 := NB258_263.out; have hnb64 := NB263_259.out; have hnc64 := NB259_263.out; obtain ⟨hcz65_0, hcz65_1, hfz65_0, hfz65_1⟩ := cz2 BK263; obtain ⟨hcz66_0, hcz66_1, hfz66_0, hfz66_1⟩ := cz2 BK259))
  refine bodyPost_ret (results_ct rfl _ _ gb259 29 #[.int .i64 0, .int .i64 0] (0, 0) _ rfl (bkp BK259) Try.underlying29 rfl (by kernel_rfl)) rfl ?_
  exact ⟨by first | rfl | (simp [errW_none, errW_some] <;> rfl) | (simp [*, errW_none, errW_some] <;> rfl), hzs HB⟩


end Go.Proofs.Ytmcippkpgmehdaa.M
