import Derived.Test.YtmcippkpgmehdaaM0
import Derived.Test.YtmcippkpgmehdaaMi
namespace Go.Proofs.Ytmcippkpgmehdaa.M
open Go.RowKit Go.Proofs.YtmcippkpgmehdaaW.PrintWords Go.Proofs.YtmcippkpgmehdaaW.PrintLast Go.Proofs.YtmcippkpgmehdaaW.PrintMore
attribute [local go_sem] max2_int min2_int max_two min_two max_three min_three max_four min_four
attribute [local go_sem high] eqA42 eqA29 eqA24
attribute [local go_sem] fld42_0 fld42_1 fld29_0 fld29_1 fld24_0 fld24_1 fld38_0 fld38_1 fld88_0 fld88_1 fld88_2 fld88_3 fld88_4
set_option linter.unusedVariables false
set_option linter.unusedSimpArgs false

/-! ### impl_SpotSame: function 24 -/
def impl_SpotSame.f (a0_0 : Int) (a0_1 : Int) (a1_0 : Int) (a1_1 : Int) : Option (Bool) := (impl_SpotOk.f a0_0 a0_1).bind fun t249 => (if t249 = true then ((impl_SpotOk.f a1_0 a1_1).bind fun t250 => (if t250 = true then (if a0_0 = a1_0 then (if a0_1 = a1_1 then (some true) else (some ((mx a0_0 (wrap64 (-a0_0))) == 32400000))) else (some false)) else (some false))) else (some false))
set_option maxHeartbeats 8000000 in
set_option maxRecDepth 100000 in
theorem impl_SpotSame.calls (a0_0 : Int) (a0_1 : Int) (a1_0 : Int) (a1_1 : Int) (r : Bool) (w : World) (h : impl_SpotSame.f a0_0 a0_1 a1_0 a1_1 = some r) :
  Calls Try.prog 24 #[.agg #[.int .i64 a0_0, .int .i64 a0_1], .agg #[.int .i64 a1_0, .int .i64 a1_1]] w fun e w' => e = .returned (.bool r) ∧ Below w.heap.size w w' := by
 have hu24 := Try.underlying24
 have HB := Aside0.mk (Below.refl w.heap.size w)
 have H : ((impl_SpotOk.f a0_0 a0_1).bind fun t249 => (if t249 = true then ((impl_SpotOk.f a1_0 a1_1).bind fun t250 => (if t250 = true then (if a0_0 = a1_0 then (if a0_1 = a1_1 then (some true) else (some ((mx a0_0 (wrap64 (-a0_0))) == 32400000))) else (some false)) else (some false))) else (some false))) = some r := h
 clear h
 replace H := Option.bind_eq_some_iff.mp H
 obtain ⟨t249, A30, H⟩ := H
 try dsimp only at H
 have A3 := Aside0.mk A30
 clear A30
 by_cases c4 : t249 = true
 ·subst c4
  have H1 : ((impl_SpotOk.f a1_0 a1_1).bind fun t250 => (if t250 = true then (if a0_0 = a1_0 then (if a0_1 = a1_1 then (some true) else (some ((mx a0_0 (wrap64 (-a0_0))) == 32400000))) else (some false)) else (some false))) = some r := by rw [if_pos rfl] at H; exact H
  clear H
  have H := H1
  clear H1
  replace H := Option.bind_eq_some_iff.mp H
  obtain ⟨t250, A50, H⟩ := H
  try dsimp only at H
  have A5 := Aside0.mk A50
  clear A50
  by_cases c6 : t250 = true
  ·subst c6
   have H1 : (if a0_0 = a1_0 then (if a0_1 = a1_1 then (some true) else (some ((mx a0_0 (wrap64 (-a0_0))) == 32400000))) else (some false)) = some r := by rw [if_pos rfl] at H; exact H
   clear H
   have H := H1
   clear H1
   by_cases c7 : a0_0 = a1_0
   ·rw [if_pos c7] at H
    have c7b0 : (a0_0 == a1_0) = true := beq_iff_eq.mpr c7
    have c7b1 : (a0_0 != a1_0) = false := bne_eq_false_iff_eq.mpr c7
    clear c7
    by_cases c8 : a0_1 = a1_1
    ·rw [if_pos c8] at H
     have c8b0 : (a0_1 == a1_1) = true := beq_iff_eq.mpr c8
     have c8b1 : (a0_1 != a1_1) = false := bne_eq_false_iff_eq.mpr c8
     clear c8
     obtain rfl := Option.some.inj H
     go_enter Try.func24, Try.ntmps24
     go_wp2_with (first | ((with_reducible refine gate_dst (N := 2) rfl ?_); (try (refine gate_guard (by rfl) ?_; dsimp only)); refine bE 2 #[.int .i64 a0_0, .int .i64 a0_1] 24 ?_; intro gb247 hg w9 hbox hb; have BK247 := Aside0.mk (hbox); have GE247 := gw hg (hz0 HB); have GW247 := GE247; replace HB := hbb (hz0 HB) hb; clear hb hbox hg) | ((with_reducible refine gate_dst (N := 3) rfl ?_); (try (refine gate_guard (by rfl) ?_; dsimp only)); refine bE 3 #[.int .i64 a1_0, .int .i64 a1_1] 24 ?_; intro gb248 hg w10 hbox hb; have BK248 := Aside0.mk (hbox); have GE248 := gw hg (hzs HB); have GW248 := GE248; have NB247_248 := nl hg (bk BK247); have NB248_247 := ng hg (bk BK247); replace BK247 := bb (bk BK247) hb; replace HB := hbb (hzs HB) hb; clear hb hbox hg; have hnb11 := NB247_248.out; have hnc11 := NB248_247.out; obtain ⟨hcz12_0, hcz12_1, hfz12_0, hfz12_1⟩ := cz2 BK247) | ((with_reducible refine gate_callee (f := 21) rfl ?_); refine gL 6 Try.func21 #[.agg #[.int .i64 a0_0, .int .i64 a0_1]] ?_; (with_reducible refine (impl_SpotOk.calls a0_0 a0_1 true _ A3.out).mono ?_); rintro e w13 ⟨rfl, hb⟩; refine ⟨_, rfl, ?_⟩; replace BK247 := bb (bk BK247) hb; replace BK248 := bb (bk BK248) hb; replace HB := hbb (hzs HB) hb; clear hb; obtain ⟨hcz14_0, hcz14_1, hfz14_0, hfz14_1⟩ := cz2 BK248) | (go_at_call 21; (with_reducible refine (impl_SpotOk.calls a1_0 a1_1 true _ A5.out).mono ?_); rintro e w15 ⟨rfl, hb⟩; replace BK247 := bb (bk BK247) hb; replace BK248 := bb (bk BK248) hb; replace HB := hbb (hzs HB) hb; clear hb; obtain ⟨hcz16_0, hcz16_1, hfz16_0, hfz16_1⟩ := cz2 BK247; obtain ⟨hcz17_0, hcz17_1, hfz17_0, hfz17_1⟩ := cz2 BK248))
     go_ret
     exact ⟨by first | rfl | (simp [errW_none, errW_some] <;> rfl) | (simp [*, errW_none, errW_some] <;> rfl), hzs HB⟩
    ·rw [if_neg c8] at H
     have c8b0 : (a0_1 == a1_1) = false := beq_eq_false_iff_ne.mpr c8
     have c8b1 : (a0_1 != a1_1) = true := bne_iff_ne.mpr c8
     obtain ⟨ji18, hji18⟩ : ∃ j_ : Int, (mx a0_0 (wrap64 (-a0_0))) = j_ := ⟨_, rfl⟩
     replace H : (some ((ji18) == 32400000)) = some r := by first | (rw [hji18] at H; exact H) | (simp only [hji18] at H ⊢; exact H)
     (try rw [hji18] at A3)
     (try rw [hji18] at A5)
     have hji18_ : (if a0_0 < (wrap64 (-a0_0)) then (wrap64 (-a0_0)) else a0_0) = ji18 := hji18
     obtain rfl := Option.some.inj H
     go_enter Try.func24, Try.ntmps24
     go_wp2_with (first | ((with_reducible refine gate_dst (N := 2) rfl ?_); (try (refine gate_guard (by rfl) ?_; dsimp only)); refine bE 2 #[.int .i64 a0_0, .int .i64 a0_1] 24 ?_; intro gb247 hg w19 hbox hb; have BK247 := Aside0.mk (hbox); have GE247 := gw hg (hz0 HB); have GW247 := GE247; replace HB := hbb (hz0 HB) hb; clear hb hbox hg) | ((with_reducible refine gate_dst (N := 3) rfl ?_); (try (refine gate_guard (by rfl) ?_; dsimp only)); refine bE 3 #[.int .i64 a1_0, .int .i64 a1_1] 24 ?_; intro gb248 hg w20 hbox hb; have BK248 := Aside0.mk (hbox); have GE248 := gw hg (hzs HB); have GW248 := GE248; have NB247_248 := nl hg (bk BK247); have NB248_247 := ng hg (bk BK247); replace BK247 := bb (bk BK247) hb; replace HB := hbb (hzs HB) hb; clear hb hbox hg; have hnb21 := NB247_248.out; have hnc21 := NB248_247.out; obtain ⟨hcz22_0, hcz22_1, hfz22_0, hfz22_1⟩ := cz2 BK247) | ((with_reducible refine gate_callee (f := 21) rfl ?_); refine gL 6 Try.func21 #[.agg #[.int .i64 a0_0, .int .i64 a0_1]] ?_; (with_reducible refine (impl_SpotOk.calls a0_0 a0_1 true _ A3.out).mono ?_); rintro e w23 ⟨rfl, hb⟩; refine ⟨_, rfl, ?_⟩; replace BK247 := bb (bk BK247) hb; replace BK248 := bb (bk BK248) hb; replace HB := hbb (hzs HB) hb; clear hb; obtain ⟨hcz24_0, hcz24_1, hfz24_0, hfz24_1⟩ := cz2 BK248) | (go_at_call 21; (with_reducible refine (impl_SpotOk.calls a1_0 a1_1 true _ A5.out).mono ?_); rintro e w25 ⟨rfl, hb⟩; replace BK247 := bb (bk BK247) hb; replace BK248 := bb (bk BK248) hb; replace HB := hbb (hzs HB) hb; clear hb; obtain ⟨hcz26_0, hcz26_1, hfz26_0, hfz26_1⟩ := cz2 BK247; obtain ⟨hcz27_0, hcz27_1, hfz27_0, hfz27_1⟩ := cz2 BK248))
     go_ret
     exact ⟨by first | rfl | (simp [errW_none, errW_some] <;> rfl) | (simp only [← hji18]; first | rfl | (simp [errW_none, errW_some] <;> rfl)) | (simp [*, errW_none, errW_some] <;> rfl), hzs HB⟩
   ·rw [if_neg c7] at H
    have c7b0 : (a0_0 == a1_0) = false := beq_eq_false_iff_ne.mpr c7
    have c7b1 : (a0_0 != a1_0) = true := bne_iff_ne.mpr c7
    obtain rfl := Option.some.inj H
    go_enter Try.func24, Try.ntmps24
    go_wp2_with (first | ((with_reducible refine gate_dst (N := 2) rfl ?_); (try (refine gate_guard (by rfl) ?_; dsimp only)); refine bE 2 #[.int .i64 a0_0, .int .i64 a0_1] 24 ?_; intro gb247 hg w28 hbox hb; have BK247 := Aside0.mk (hbox); have GE247 := gw hg (hz0 HB); have GW247 := GE247; replace HB := hbb (hz0 HB) hb; clear hb hbox hg) | ((with_reducible refine gate_dst (N := 3) rfl ?_); (try (refine gate_guard (by rfl) ?_; dsimp only)); refine bE 3 #[.int .i64 a1_0, .int .i64 a1_1] 24 ?_; intro gb248 hg w29 hbox hb; have BK248 := Aside0.mk (hbox); have GE248 := gw hg (hzs HB); have GW248 := GE248; have NB247_248 := nl hg (bk BK247); have NB248_247 := ng hg (bk BK247); replace BK247 := bb (bk BK247) hb; replace HB := hbb (hzs HB) hb; clear hb hbox hg; have hnb30 := NB247_248.out; have hnc30 := NB248_247.out; obtain ⟨hcz31_0, hcz31_1, hfz31_0, hfz31_1⟩ := cz2 BK247) | ((with_reducible refine gate_callee (f := 21) rfl ?_); refine gL 6 Try.func21 #[.agg #[.int .i64 a0_0, .int .i64 a0_1]] ?_; (with_reducible refine (impl_SpotOk.calls a0_0 a0_1 true _ A3.out).mono ?_); rintro e w32 ⟨rfl, hb⟩; refine ⟨_, rfl, ?_⟩; replace BK247 := bb (bk BK247) hb; replace BK248 := bb (bk BK248) hb; replace HB := hbb (hzs HB) hb; clear hb; obtain ⟨hcz33_0, hcz33_1, hfz33_0, hfz33_1⟩ := cz2 BK248) | (go_at_call 21; (with_reducible refine (impl_SpotOk.calls a1_0 a1_1 true _ A5.out).mono ?_); rintro e w34 ⟨rfl, hb⟩; replace BK247 := bb (bk BK247) hb; replace BK248 := bb (bk BK248) hb; replace HB := hbb (hzs HB) hb; clear hb; obtain ⟨hcz35_0, hcz35_1, hfz35_0, hfz35_1⟩ := cz2 BK247; obtain ⟨hcz36_0, hcz36_1, hfz36_0, hfz36_1⟩ := cz2 BK248))
    go_ret
    exact ⟨by first | rfl | (simp [errW_none, errW_some] <;> rfl) | (simp [*, errW_none, errW_some] <;> rfl), hzs HB⟩
  ·replace c6 := Bool.eq_false_iff.mpr c6
   subst c6
   have H1 : (some false) = some r := by rw [if_neg (show ¬ (false = true) by decide)] at H; exact H
   clear H
   have H := H1
   clear H1
   obtain rfl := Option.some.inj H
   go_enter Try.func24, Try.ntmps24
   go_wp2_with (first | ((with_reducible refine gate_dst (N := 2) rfl ?_); (try (refine gate_guard (by rfl) ?_; dsimp only)); refine bE 2 #[.int .i64 a0_0, .int .i64 a0_1] 24 ?_; intro gb247 hg w37 hbox hb; have BK247 := Aside0.mk (hbox); have GE247 := gw hg (hz0 HB); have GW247 := GE247; replace HB := hbb (hz0 HB) hb; clear hb hbox hg) | ((with_reducible refine gate_dst (N := 3) rfl ?_); (try (refine gate_guard (by rfl) ?_; dsimp only)); refine bE 3 #[.int .i64 a1_0, .int .i64 a1_1] 24 ?_; intro gb248 hg w38 hbox hb; have BK248 := Aside0.mk (hbox); have GE248 := gw hg (hzs HB); have GW248 := GE248; have NB247_248 := nl hg (bk BK247); have NB248_247 := ng hg (bk BK247); replace BK247 := bb (bk BK247) hb; replace HB := hbb (hzs HB) hb; clear hb hbox hg; have hnb39 := NB247_248.out; have hnc39 := NB248_247.out; obtain ⟨hcz40_0, hcz40_1, hfz40_0, hfz40_1⟩ := cz2 BK247) | ((with_reducible refine gate_callee (f := 21) rfl ?_); refine gL 6 Try.func21 #[.agg #[.int .i64 a0_0, .int .i64 a0_1]] ?_; (with_reducible refine (impl_SpotOk.calls a0_0 a0_1 true _ A3.out).mono ?_); rintro e w41 ⟨rfl, hb⟩; refine ⟨_, rfl, ?_⟩; replace BK247 := bb (bk BK247) hb; replace BK248 := bb (bk BK248) hb; replace HB := hbb (hzs HB) hb; clear hb; obtain ⟨hcz42_0, hcz42_1, hfz42_0, hfz42_1⟩ := cz2 BK248) | (go_at_call 21; (with_reducible refine (impl_SpotOk.calls a1_0 a1_1 false _ A5.out).mono ?_); rintro e w43 ⟨rfl, hb⟩; replace BK247 := bb (bk BK247) hb; replace BK248 := bb (bk BK248) hb; replace HB := hbb (hzs HB) hb; clear hb))
   go_ret
   exact ⟨by first | rfl | (simp [errW_none, errW_some] <;> rfl) | (simp [*, errW_none, errW_some] <;> rfl), hzs HB⟩
 ·replace c4 := Bool.eq_false_iff.mpr c4
  subst c4
  have H1 : (some false) = some r := by rw [if_neg (show ¬ (false = true) by decide)] at H; exact H
  clear H
  have H := H1
  clear H1
  obtain rfl := Option.some.inj H
  go_enter Try.func24, Try.ntmps24
  go_wp2_with (first | ((with_reducible refine gate_dst (N := 2) rfl ?_); (try (refine gate_guard (by rfl) ?_; dsimp only)); refine bE 2 #[.int .i64 a0_0, .int .i64 a0_1] 24 ?_; intro gb247 hg w44 hbox hb; have BK247 := Aside0.mk (hbox); have GE247 := gw hg (hz0 HB); have GW247 := GE247; replace HB := hbb (hz0 HB) hb; clear hb hbox hg) | ((with_reducible refine gate_dst (N := 3) rfl ?_); (try (refine gate_guard (by rfl) ?_; dsimp only)); refine bE 3 #[.int .i64 a1_0, .int .i64 a1_1] 24 ?_; intro gb248 hg w45 hbox hb; have BK248 := Aside0.mk (hbox); have GE248 := gw hg (hzs HB); have GW248 := GE248; have NB247_248 := nl hg (bk BK247); have NB248_247 := ng hg (bk BK247); replace BK247 := bb (bk BK247) hb; replace HB := hbb (hzs HB) hb; clear hb hbox hg; have hnb46 := NB247_248.out; have hnc46 := NB248_247.out; obtain ⟨hcz47_0, hcz47_1, hfz47_0, hfz47_1⟩ := cz2 BK247) | ((with_reducible refine gate_callee (f := 21) rfl ?_); refine gL 6 Try.func21 #[.agg #[.int .i64 a0_0, .int .i64 a0_1]] ?_; (with_reducible refine (impl_SpotOk.calls a0_0 a0_1 false _ A3.out).mono ?_); rintro e w48 ⟨rfl, hb⟩; refine ⟨_, rfl, ?_⟩; replace BK247 := bb (bk BK247) hb; replace BK248 := bb (bk BK248) hb; replace HB := hbb (hzs HB) hb; clear hb))
  go_ret
  exact ⟨by first | rfl | (simp [errW_none, errW_some] <;> rfl) | (simp [*, errW_none, errW_some] <;> rfl), hzs HB⟩


end Go.Proofs.Ytmcippkpgmehdaa.M
