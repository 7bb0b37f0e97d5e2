import Derived.Test.YtmcippkpgmehdaaM0
import Derived.Test.YtmcippkpgmehdaaNa
namespace Go.Proofs.Ytmcippkpgmehdaa.M
open Go.RowKit Go.Proofs.YtmcippkpgmehdaaW.PrintWords Go.Proofs.YtmcippkpgmehdaaW.PrintLast Go.Proofs.YtmcippkpgmehdaaW.PrintMore
attribute [local go_sem] max2_int min2_int max_two min_two max_three min_three max_four min_four
attribute [local go_sem high] eqA42 eqA29 eqA24
attribute [local go_sem] fld42_0 fld42_1 fld29_0 fld29_1 fld24_0 fld24_1 fld38_0 fld38_1 fld88_0 fld88_1 fld88_2 fld88_3 fld88_4
set_option linter.unusedVariables false
set_option linter.unusedSimpArgs false

/-! ### spec_SpotOk: function 26 -/
def spec_SpotOk.f (a0_0 : Int) (a0_1 : Int) : Option (Bool) := (spec_l6In.f a0_0 (-32400000) 32400000).bind fun t102 => (if t102 = true then ((spec_l6In.f a0_1 0 129599999).bind fun t103 => (some t103)) else (some false))
set_option maxHeartbeats 8000000 in
set_option maxRecDepth 100000 in
theorem spec_SpotOk.calls (a0_0 : Int) (a0_1 : Int) (r : Bool) (w : World) (h : spec_SpotOk.f a0_0 a0_1 = some r) :
  Calls Try.prog 26 #[.agg #[.int .i64 a0_0, .int .i64 a0_1]] w fun e w' => e = .returned (.bool r) ∧ Below w.heap.size w w' := by
 have hu24 := Try.underlying24
 have HB := Aside0.mk (Below.refl w.heap.size w)
 have H : ((spec_l6In.f a0_0 (-32400000) 32400000).bind fun t102 => (if t102 = true then ((spec_l6In.f a0_1 0 129599999).bind fun t103 => (some t103)) else (some false))) = some r := h
 clear h
 replace H := Option.bind_eq_some_iff.mp H
 obtain ⟨t102, A20, H⟩ := H
 try dsimp only at H
 have A2 := Aside0.mk A20
 clear A20
 by_cases c3 : t102 = true
 ·subst c3
  have H1 : ((spec_l6In.f a0_1 0 129599999).bind fun t103 => (some t103)) = some r := by rw [if_pos rfl] at H; exact H
  clear H
  have H := H1
  clear H1
  replace H := Option.bind_eq_some_iff.mp H
  obtain ⟨t103, A40, H⟩ := H
  try dsimp only at H
  have A4 := Aside0.mk A40
  clear A40
  obtain rfl := Option.some.inj H
  go_enter Try.func26, Try.ntmps26
  go_wp2_with (first | ((with_reducible refine gate_dst (N := 1) rfl ?_); refine bE 1 #[.int .i64 a0_0, .int .i64 a0_1] 24 ?_; intro gb101 hg w5 hbox hb; have BK101 := Aside0.mk (hbox); have GE101 := gw hg (hz0 HB); have GW101 := GE101; replace HB := hbb (hz0 HB) hb; clear hb hbox hg; obtain ⟨hcz6_0, hcz6_1, hfz6_0, hfz6_1⟩ := cz2 BK101) | ((with_reducible refine gate_callee (f := 55) rfl ?_); refine gL 5 Try.func55 #[.int .i64 a0_0, .int .i64 (-32400000), .int .i64 32400000] ?_; (with_reducible refine (spec_l6In.calls a0_0 (-32400000) 32400000 true _ A2.out).mono ?_); rintro e w' ⟨rfl, ⟨nd, rfl⟩⟩; refine ⟨_, rfl, ?_⟩) | (go_at_call 55; (with_reducible refine (spec_l6In.calls a0_1 0 129599999 t103 _ A4.out).mono ?_); rintro e w' ⟨rfl, ⟨nd, rfl⟩⟩))
  go_ret
  exact ⟨by first | rfl | (simp [errW_none, errW_some] <;> rfl) | (simp [*, errW_none, errW_some] <;> rfl), hzs HB⟩
 ·replace c3 := Bool.eq_false_iff.mpr c3
  subst c3
  have H1 : (some false) = some r := by rw [if_neg (show ¬ (false = true) by decide)] at H; exact H
  clear H
  have H := H1
  clear H1
  obtain rfl := Option.some.inj H
  go_enter Try.func26, Try.ntmps26
  go_wp2_with (first | ((with_reducible refine gate_dst (N := 1) rfl ?_); refine bE 1 #[.int .i64 a0_0, .int .i64 a0_1] 24 ?_; intro gb101 hg w7 hbox hb; have BK101 := Aside0.mk (hbox); have GE101 := gw hg (hz0 HB); have GW101 := GE101; replace HB := hbb (hz0 HB) hb; clear hb hbox hg; obtain ⟨hcz8_0, hcz8_1, hfz8_0, hfz8_1⟩ := cz2 BK101) | ((with_reducible refine gate_callee (f := 55) rfl ?_); refine gL 5 Try.func55 #[.int .i64 a0_0, .int .i64 (-32400000), .int .i64 32400000] ?_; (with_reducible refine (spec_l6In.calls a0_0 (-32400000) 32400000 false _ A2.out).mono ?_); rintro e w' ⟨rfl, ⟨nd, rfl⟩⟩; refine ⟨_, rfl, ?_⟩))
  go_ret
  exact ⟨by first | rfl | (simp [errW_none, errW_some] <;> rfl) | (simp [*, errW_none, errW_some] <;> rfl), hzs HB⟩


/-! ### spec_l11Norm: function 44 -/
def spec_l11Norm.f (a0 : Int) : Option (Int) := (spec_l1Down.f a0 129600000).bind fun t246 => (some (wrap64 (a0 - (wrap64 (t246 * 129600000)))))
set_option maxHeartbeats 8000000 in
set_option maxRecDepth 100000 in
theorem spec_l11Norm.calls (a0 : Int) (r : Int) (w : World) (h : spec_l11Norm.f a0 = some r) :
  Calls Try.prog 44 #[.int .i64 a0] w fun e w' => e = .returned (.int .i64 r) ∧ Drawn0 w w' := by
 have H : ((spec_l1Down.f a0 129600000).bind fun t246 => (some (wrap64 (a0 - (wrap64 (t246 * 129600000)))))) = some r := h
 clear h
 replace H := Option.bind_eq_some_iff.mp H
 obtain ⟨t246, A20, H⟩ := H
 try dsimp only at H
 have A2 := Aside0.mk A20
 clear A20
 obtain rfl := Option.some.inj H
 go_enter Try.func44, Try.ntmps44
 go_wp2_with (first | ((with_reducible refine gate_callee (f := 70) rfl ?_); refine gL 5 Try.func70 #[.int .i64 a0, .int .i64 129600000] ?_; (with_reducible refine (spec_l1Down.calls a0 129600000 t246 _ A2.out).mono ?_); rintro e w' ⟨rfl, ⟨nd, rfl⟩⟩; refine ⟨_, rfl, ?_⟩))
 go_ret
 exact ⟨by first | rfl | (simp; done) | (simp [*]; done), by repeat (first | exact Drawn0.refl _ | apply Drawn0.step)⟩


/-! ### spec_SpotFar: function 18 -/
def spec_SpotFar.f (a0_0 : Int) (a0_1 : Int) : Option (Int × Int × Bool) := (spec_SpotOk.f a0_0 a0_1).bind fun t249 => (if t249 = true then ((spec_l11Norm.f (wrap64 (a0_1 + 64800000))).bind fun t250 => (some (wrap64 (-a0_0), t250, true))) else (some (0, 0, false)))
def spec_SpotFar.T3 : Bool × List (List Nat × List Nat) := (true, [([], []), ([0], [0]), ([1], [1]), ([], []), ([3], [3]), ([4], [4]), ([5], [5]), ([2, 6], [2, 6]), ([7, 6, 0, 1, 2, 3, 4, 5, 6, 7], [7]), ([8, 0, 1, 2, 3, 4, 5, 6, 7, 8], [])])
def spec_SpotFar.B3 : List Nat := [0, 1, 3, 0, 8, 24, 56, 127, 255, 511]
theorem spec_SpotFar.tab3 : rtab .any (opsOf Try.f18 3) = spec_SpotFar.T3 := by kernel_rfl
theorem spec_SpotFar.bits3 : waitsOk spec_SpotFar.T3.2 spec_SpotFar.B3 = true := by kernel_rfl
set_option maxHeartbeats 8000000 in
set_option maxRecDepth 100000 in
theorem spec_SpotFar.calls (a0_0 : Int) (a0_1 : Int) (r1 : Int) (r2 : Int) (r3 : Bool) (w : World) (h : spec_SpotFar.f a0_0 a0_1 = some (r1, r2, r3)) :
  Calls Try.prog 18 #[.agg #[.int .i64 a0_0, .int .i64 a0_1]] w fun e w' => e = .returned (.tuple #[.agg #[.int .i64 r1, .int .i64 r2], .bool r3]) ∧ Below w.heap.size w w' := by
 have hu24 := Try.underlying24
 have HB := Aside0.mk (Below.refl w.heap.size w)
 have H : ((spec_SpotOk.f a0_0 a0_1).bind fun t249 => (if t249 = true then ((spec_l11Norm.f (wrap64 (a0_1 + 64800000))).bind fun t250 => (some (wrap64 (-a0_0), t250, true))) else (some (0, 0, false)))) = some (r1, r2, r3) := h
 clear h
 replace H := Option.bind_eq_some_iff.mp H
 obtain ⟨t249, A20, H⟩ := H
 try dsimp only at H
 have A2 := Aside0.mk A20
 clear A20
 by_cases c3 : t249 = true
 ·subst c3
  have H1 : ((spec_l11Norm.f (wrap64 (a0_1 + 64800000))).bind fun t250 => (some (wrap64 (-a0_0), t250, true))) = some (r1, r2, r3) := by rw [if_pos rfl] at H; exact H
  clear H
  have H := H1
  clear H1
  replace H := Option.bind_eq_some_iff.mp H
  obtain ⟨t250, A40, H⟩ := H
  try dsimp only at H
  have A4 := Aside0.mk A40
  clear A40
  simp only [Option.some.injEq, Prod.mk.injEq] at H
  obtain ⟨rfl, rfl, rfl⟩ := H
  go_enter Try.func18, Try.ntmps18
  try go_wp2_with (first | ((with_reducible refine gate_dst (N := 1) rfl ?_); refine bE 1 #[.int .i64 a0_0, .int .i64 a0_1] 24 ?_; intro gb247 hg w5 hbox hb; have BK247 := Aside0.mk (hbox); have GE247 := gw hg (hz0 HB); have GW247 := GE247; replace HB := hbb (hz0 HB) hb; clear hb hbox hg) | ((with_reducible refine gate_dst (N := 2) rfl ?_); refine bE 2 #[.int .i64 0, .int .i64 0] 24 ?_; intro gb248 hg w6 hbox hb; have BK248 := Aside0.mk (hbox); have GE248 := gw hg (hzs HB); have GW248 := GE248; have NB247_248 := nl hg (bk BK247); have NB248_247 := ng hg (bk BK247); replace BK247 := bb (bk BK247) hb; replace HB := hbb (hzs HB) hb; clear hb hbox hg; have hnb7 := NB247_248.out; have hnc7 := NB248_247.out; obtain ⟨hcz8_0, hcz8_1, hfz8_0, hfz8_1⟩ := cz2 BK247) | ((with_reducible refine gate_callee (f := 26) rfl ?_); refine gL 5 Try.func26 #[.agg #[.int .i64 a0_0, .int .i64 a0_1]] ?_; (with_reducible refine (spec_SpotOk.calls a0_0 a0_1 true _ A2.out).mono ?_); rintro e w9 ⟨rfl, hb⟩; refine ⟨_, rfl, ?_⟩; replace BK247 := bb (bk BK247) hb; replace BK248 := bb (bk BK248) hb; replace HB := hbb (hzs HB) hb; clear hb))
  replace BK247 := Aside0.mk (blk_drew BK247.out)
  replace BK248 := Aside0.mk (blk_drew BK248.out)
  replace HB := Aside0.mk (below_drew1 HB.out)
  refine start_ (n := 10) (S := fun w' => w'.cell? ⟨gb247, 0, none⟩ = some (.int .i64 a0_0) ∧ w'.cell? ⟨gb247, 1, none⟩ = some (.int .i64 a0_1)) (ds := []) #[false, false, false, false, false, false, false, false, false, false] (by kernel_rfl) rfl rfl ⟨cw0 BK247, cw1 BK247⟩ (fun hHeld => ?_); refine with_tabW spec_SpotFar.tab3 spec_SpotFar.bits3 (fun HT_ HW_ => ?_)
  generalize w9.drew = w10 at BK247 BK248 HB hHeld ⊢
  refine pU 0 8 #[true, false, false, false, false, false, false, false, false, false] HT_ ?_
  refine pU 3 11 #[true, false, false, true, false, false, false, false, false, false] HT_ ?_
  refine take_ (i := 1) (N := some 9) (v := ?_) (a' := ?_) #[true, true, false, true, false, false, false, false, false, false] rfl rfl (take_ofW HT_.out HW_.out (by kernel_rfl)) (fun _ _ _ h => h) (Or.inl ⟨by rfl, ?_⟩) hHeld ?_ ?_
  rotate_left
  ·rintro w' ⟨s0, s1⟩
   go_simp
   with_reducible rfl
  rotate_left
  ·simp only [Act.put, List.setIfInBounds_toArray, List.set_cons_zero, List.set_cons_succ, i64_w, i32_w]
   rfl
  refine pU 2 10 #[true, true, true, true, false, false, false, false, false, false] HT_ ?_
  refine take_ (i := 4) (N := some 12) (v := ?_) (a' := ?_) #[true, true, true, true, true, false, false, false, false, false] rfl rfl (take_ofW HT_.out HW_.out (by kernel_rfl)) (fun _ _ _ h => h) (Or.inl ⟨by rfl, ?_⟩) hHeld ?_ ?_
  rotate_left
  ·rintro w' ⟨s0, s1⟩
   go_simp
   with_reducible rfl
  rotate_left
  ·simp only [Act.put, List.setIfInBounds_toArray, List.set_cons_zero, List.set_cons_succ, i64_w, i32_w]
   rfl
  refine pU 5 13 #[true, true, true, true, true, true, false, false, false, false] HT_ ?_
  refine oN 6 14 #[true, true, true, true, true, true, true, false, false, false] HT_ (fun K hK => ?_)
  refine gS Try.func44 #[.int .i64 (wrap64 (a0_1 + 64800000))] ?_
  with_reducible refine (spec_l11Norm.calls (wrap64 (a0_1 + 64800000)) t250 _ A4.out).mono ?_
  rintro e w' ⟨rfl, ⟨nd, rfl⟩⟩
  refine ⟨_, rfl, ?_⟩
  refine hK.out _ _ ⟨cw0 BK247, cw1 BK247⟩ (fun hHeld => ?_)
  clear hK K
  refine nP ?_
  refine pU 7 15 #[true, true, true, true, true, true, true, true, false, false] HT_ ?_
  refine one_ (i := 8) (N := none) #[true, true, true, true, true, true, true, true, true, false] rfl rfl (one_of HT_.out (by kernel_rfl)) (by decide) (fun K hK => ?_)
  have hs11 : w10.cell? ⟨gb248, 0, none⟩ = some (.int .i64 0) := (blk_cell BK248.out 0).trans rfl
  have hfs11 := blk_frozen BK248.out 0
  have hns11_0 := NB247_248.out
  have hms11_0 := NB248_247.out
  have hs12 : w10.cell? ⟨gb248, 1, none⟩ = some (.int .i64 0) := (blk_cell BK248.out 1).trans rfl
  have hfs12 := blk_frozen BK248.out 1
  have hns12_0 := NB247_248.out
  have hms12_0 := NB248_247.out
  refine skip_ (w1 := ?_) (by rfl) rfl ?_ ?_
  rotate_left
  ·go_simp
   rfl
  refine hK.out _ _ ⟨((cell_far (p := ⟨gb248, _, none⟩) NB247_248.out _).trans (((cell_far (p := ⟨gb248, _, none⟩) NB247_248.out _).trans (hHeld.1)))), ((cell_far (p := ⟨gb248, _, none⟩) NB247_248.out _).trans (((cell_far (p := ⟨gb248, _, none⟩) NB247_248.out _).trans (hHeld.2))))⟩ (fun hHeld => ?_)
  clear hK K
  refine pU 9 3 #[true, true, true, true, true, true, true, true, true, true] HT_ ?_
  refine done_ (done_of HT_.out (by kernel_rfl)) ?_
  try go_wp2
  refine bodyPost_ret (results_ct rfl _ _ gb248 24 #[.int .i64 (wrap64 (-a0_0)), .int .i64 t250] (0, 0) _ rfl (bkp BK248) Try.underlying24 rfl (by kernel_rfl)) rfl ?_
  exact ⟨by first | rfl | (simp [errW_none, errW_some] <;> rfl) | (simp [*, errW_none, errW_some] <;> rfl), hzs HB⟩
 ·replace c3 := Bool.eq_false_iff.mpr c3
  subst c3
  have H1 : (some (0, 0, false)) = some (r1, r2, r3) := by rw [if_neg (show ¬ (false = true) by decide)] at H; exact H
  clear H
  have H := H1
  clear H1
  simp only [Option.some.injEq, Prod.mk.injEq] at H
  obtain ⟨rfl, rfl, rfl⟩ := H
  go_enter Try.func18, Try.ntmps18
  go_wp2_with (first | ((with_reducible refine gate_dst (N := 1) rfl ?_); refine bE 1 #[.int .i64 a0_0, .int .i64 a0_1] 24 ?_; intro gb247 hg w13 hbox hb; have BK247 := Aside0.mk (hbox); have GE247 := gw hg (hz0 HB); have GW247 := GE247; replace HB := hbb (hz0 HB) hb; clear hb hbox hg) | ((with_reducible refine gate_dst (N := 2) rfl ?_); refine bE 2 #[.int .i64 0, .int .i64 0] 24 ?_; intro gb248 hg w14 hbox hb; have BK248 := Aside0.mk (hbox); have GE248 := gw hg (hzs HB); have GW248 := GE248; have NB247_248 := nl hg (bk BK247); have NB248_247 := ng hg (bk BK247); replace BK247 := bb (bk BK247) hb; replace HB := hbb (hzs HB) hb; clear hb hbox hg; have hnb15 := NB247_248.out; have hnc15 := NB248_247.out; obtain ⟨hcz16_0, hcz16_1, hfz16_0, hfz16_1⟩ := cz2 BK247) | ((with_reducible refine gate_callee (f := 26) rfl ?_); refine gL 5 Try.func26 #[.agg #[.int .i64 a0_0, .int .i64 a0_1]] ?_; (with_reducible refine (spec_SpotOk.calls a0_0 a0_1 false _ A2.out).mono ?_); rintro e w17 ⟨rfl, hb⟩; refine ⟨_, rfl, ?_⟩; replace BK247 := bb (bk BK247) hb; replace BK248 := bb (bk BK248) hb; replace HB := hbb (hzs HB) hb; clear hb; obtain ⟨hcz18_0, hcz18_1, hfz18_0, hfz18_1⟩ := cz2 BK248))
  refine bodyPost_ret (results_ct rfl _ _ gb248 24 #[.int .i64 0, .int .i64 0] (0, 0) _ rfl (bkp BK248) Try.underlying24 rfl (by kernel_rfl)) rfl ?_
  exact ⟨by first | rfl | (simp [errW_none, errW_some] <;> rfl) | (simp [*, errW_none, errW_some] <;> rfl), hzs HB⟩


end Go.Proofs.Ytmcippkpgmehdaa.M
