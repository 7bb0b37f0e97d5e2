import Derived.Test.YtmcippkpgmehdaaM0
import Derived.Test.YtmcippkpgmehdaaNg
namespace Go.Proofs.Ytmcippkpgmehdaa.M
open Go.RowKit Go.Proofs.YtmcippkpgmehdaaW.PrintWords Go.Proofs.YtmcippkpgmehdaaW.PrintLast Go.Proofs.YtmcippkpgmehdaaW.PrintMore
attribute [local go_sem] max2_int min2_int max_two min_two max_three min_three max_four min_four
attribute [local go_sem high] eqA42 eqA29 eqA24
attribute [local go_sem] fld42_0 fld42_1 fld29_0 fld29_1 fld24_0 fld24_1 fld38_0 fld38_1 fld88_0 fld88_1 fld88_2 fld88_3 fld88_4
set_option linter.unusedVariables false
set_option linter.unusedSimpArgs false

/-! ### spec_l21Pole: function 54 -/
def spec_l21Pole.f (a0_0 : Int) (a0_1 : Int) : Option (Bool) := if a0_0 = 32400000 then (some true) else (some (a0_0 == (-32400000)))
set_option maxHeartbeats 8000000 in
set_option maxRecDepth 100000 in
theorem spec_l21Pole.calls (a0_0 : Int) (a0_1 : Int) (r : Bool) (w : World) (h : spec_l21Pole.f a0_0 a0_1 = some r) :
  Calls Try.prog 54 #[.agg #[.int .i64 a0_0, .int .i64 a0_1]] w fun e w' => e = .returned (.bool r) ∧ Below w.heap.size w w' := by
 have hu24 := Try.underlying24
 have HB := Aside0.mk (Below.refl w.heap.size w)
 have H : (if a0_0 = 32400000 then (some true) else (some (a0_0 == (-32400000)))) = some r := h
 clear h
 by_cases c2 : a0_0 = 32400000
 ·rw [if_pos c2] at H
  have c2b0 : (a0_0 == 32400000) = true := beq_iff_eq.mpr c2
  have c2b1 : (a0_0 != 32400000) = false := bne_eq_false_iff_eq.mpr c2
  clear c2
  obtain rfl := Option.some.inj H
  go_enter Try.func54, Try.ntmps54
  go_wp2_with (first | ((with_reducible refine gate_dst (N := 1) rfl ?_); refine bE 1 #[.int .i64 a0_0, .int .i64 a0_1] 24 ?_; intro gb104 hg w3 hbox hb; have BK104 := Aside0.mk (hbox); have GE104 := gw hg (hz0 HB); have GW104 := GE104; replace HB := hbb (hz0 HB) hb; clear hb hbox hg; obtain ⟨hcz4_0, hcz4_1, hfz4_0, hfz4_1⟩ := cz2 BK104))
  go_ret
  exact ⟨by first | rfl | (simp [errW_none, errW_some] <;> rfl) | (simp [*, errW_none, errW_some] <;> rfl), hzs HB⟩
 ·rw [if_neg c2] at H
  have c2b0 : (a0_0 == 32400000) = false := beq_eq_false_iff_ne.mpr c2
  have c2b1 : (a0_0 != 32400000) = true := bne_iff_ne.mpr c2
  obtain rfl := Option.some.inj H
  go_enter Try.func54, Try.ntmps54
  go_wp2_with (first | ((with_reducible refine gate_dst (N := 1) rfl ?_); refine bE 1 #[.int .i64 a0_0, .int .i64 a0_1] 24 ?_; intro gb104 hg w5 hbox hb; have BK104 := Aside0.mk (hbox); have GE104 := gw hg (hz0 HB); have GW104 := GE104; replace HB := hbb (hz0 HB) hb; clear hb hbox hg; obtain ⟨hcz6_0, hcz6_1, hfz6_0, hfz6_1⟩ := cz2 BK104))
  go_ret
  exact ⟨by first | rfl | (simp [errW_none, errW_some] <;> rfl) | (simp [*, errW_none, errW_some] <;> rfl), hzs HB⟩


/-! ### spec_SpotSame: function 25 -/
def spec_SpotSame.f (a0_0 : Int) (a0_1 : Int) (a1_0 : Int) (a1_1 : Int) : Option (Bool) := (spec_SpotOk.f a0_0 a0_1).bind fun t107 => (if t107 = true then ((spec_SpotOk.f a1_0 a1_1).bind fun t108 => (if t108 = true then (if a0_0 = a1_0 then (if a0_1 = a1_1 then (some true) else ((spec_l21Pole.f a0_0 a0_1).bind fun t109 => (some t109))) else (some false)) else (some false))) else (some false))
set_option maxHeartbeats 8000000 in
set_option maxRecDepth 100000 in
theorem spec_SpotSame.calls (a0_0 : Int) (a0_1 : Int) (a1_0 : Int) (a1_1 : Int) (r : Bool) (w : World) (h : spec_SpotSame.f a0_0 a0_1 a1_0 a1_1 = some r) :
  Calls Try.prog 25 #[.agg #[.int .i64 a0_0, .int .i64 a0_1], .agg #[.int .i64 a1_0, .int .i64 a1_1]] w fun e w' => e = .returned (.bool r) ∧ Below w.heap.size w w' := by
 have hu24 := Try.underlying24
 have HB := Aside0.mk (Below.refl w.heap.size w)
 have H : ((spec_SpotOk.f a0_0 a0_1).bind fun t107 => (if t107 = true then ((spec_SpotOk.f a1_0 a1_1).bind fun t108 => (if t108 = true then (if a0_0 = a1_0 then (if a0_1 = a1_1 then (some true) else ((spec_l21Pole.f a0_0 a0_1).bind fun t109 => (some t109))) else (some false)) else (some false))) else (some false))) = some r := h
 clear h
 replace H := Option.bind_eq_some_iff.mp H
 obtain ⟨t107, A30, H⟩ := H
 try dsimp only at H
 have A3 := Aside0.mk A30
 clear A30
 by_cases c4 : t107 = true
 ·subst c4
  have H1 : ((spec_SpotOk.f a1_0 a1_1).bind fun t108 => (if t108 = true then (if a0_0 = a1_0 then (if a0_1 = a1_1 then (some true) else ((spec_l21Pole.f a0_0 a0_1).bind fun t109 => (some t109))) else (some false)) else (some false))) = some r := by rw [if_pos rfl] at H; exact H
  clear H
  have H := H1
  clear H1
  replace H := Option.bind_eq_some_iff.mp H
  obtain ⟨t108, A50, H⟩ := H
  try dsimp only at H
  have A5 := Aside0.mk A50
  clear A50
  by_cases c6 : t108 = true
  ·subst c6
   have H1 : (if a0_0 = a1_0 then (if a0_1 = a1_1 then (some true) else ((spec_l21Pole.f a0_0 a0_1).bind fun t109 => (some t109))) else (some false)) = some r := by rw [if_pos rfl] at H; exact H
   clear H
   have H := H1
   clear H1
   by_cases c7 : a0_0 = a1_0
   ·rw [if_pos c7] at H
    have c7b0 : (a0_0 == a1_0) = true := beq_iff_eq.mpr c7
    have c7b1 : (a0_0 != a1_0) = false := bne_eq_false_iff_eq.mpr c7
    clear c7
    by_cases c8 : a0_1 = a1_1
    ·rw [if_pos c8] at H
     have c8b0 : (a0_1 == a1_1) = true := beq_iff_eq.mpr c8
     have c8b1 : (a0_1 != a1_1) = false := bne_eq_false_iff_eq.mpr c8
     clear c8
     obtain rfl := Option.some.inj H
     go_enter Try.func25, Try.ntmps25
     go_wp2_with (first | ((with_reducible refine gate_dst (N := 2) rfl ?_); refine bE 2 #[.int .i64 a0_0, .int .i64 a0_1] 24 ?_; intro gb105 hg w9 hbox hb; have BK105 := Aside0.mk (hbox); have GE105 := gw hg (hz0 HB); have GW105 := GE105; replace HB := hbb (hz0 HB) hb; clear hb hbox hg) | ((with_reducible refine gate_dst (N := 3) rfl ?_); refine bE 3 #[.int .i64 a1_0, .int .i64 a1_1] 24 ?_; intro gb106 hg w10 hbox hb; have BK106 := Aside0.mk (hbox); have GE106 := gw hg (hzs HB); have GW106 := GE106; have NB105_106 := nl hg (bk BK105); have NB106_105 := ng hg (bk BK105); replace BK105 := bb (bk BK105) hb; replace HB := hbb (hzs HB) hb; clear hb hbox hg; have hnb11 := NB105_106.out; have hnc11 := NB106_105.out; obtain ⟨hcz12_0, hcz12_1, hfz12_0, hfz12_1⟩ := cz2 BK105) | ((with_reducible refine gate_callee (f := 26) rfl ?_); refine gL 6 Try.func26 #[.agg #[.int .i64 a0_0, .int .i64 a0_1]] ?_; (with_reducible refine (spec_SpotOk.calls a0_0 a0_1 true _ A3.out).mono ?_); rintro e w13 ⟨rfl, hb⟩; refine ⟨_, rfl, ?_⟩; replace BK105 := bb (bk BK105) hb; replace BK106 := bb (bk BK106) hb; replace HB := hbb (hzs HB) hb; clear hb; obtain ⟨hcz14_0, hcz14_1, hfz14_0, hfz14_1⟩ := cz2 BK106) | (go_at_call 26; (with_reducible refine (spec_SpotOk.calls a1_0 a1_1 true _ A5.out).mono ?_); rintro e w15 ⟨rfl, hb⟩; replace BK105 := bb (bk BK105) hb; replace BK106 := bb (bk BK106) hb; replace HB := hbb (hzs HB) hb; clear hb; obtain ⟨hcz16_0, hcz16_1, hfz16_0, hfz16_1⟩ := cz2 BK105; obtain ⟨hcz17_0, hcz17_1, hfz17_0, hfz17_1⟩ := cz2 BK106))
     go_ret
     exact ⟨by first | rfl | (simp [errW_none, errW_some] <;> rfl) | (simp [*, errW_none, errW_some] <;> rfl), hzs HB⟩
    ·rw [if_neg c8] at H
     have c8b0 : (a0_1 == a1_1) = false := beq_eq_false_iff_ne.mpr c8
     have c8b1 : (a0_1 != a1_1) = true := bne_iff_ne.mpr c8
     replace H := Option.bind_eq_some_iff.mp H
     obtain ⟨t109, A180, H⟩ := H
     try dsimp only at H
     have A18 := Aside0.mk A180
     clear A180
     obtain rfl := Option.some.inj H
     go_enter Try.func25, Try.ntmps25
     go_wp2_with (first | ((with_reducible refine gate_dst (N := 2) rfl ?_); refine bE 2 #[.int .i64 a0_0, .int .i64 a0_1] 24 ?_; intro gb105 hg w19 hbox hb; have BK105 := Aside0.mk (hbox); have GE105 := gw hg (hz0 HB); have GW105 := GE105; replace HB := hbb (hz0 HB) hb; clear hb hbox hg) | ((with_reducible refine gate_dst (N := 3) rfl ?_); refine bE 3 #[.int .i64 a1_0, .int .i64 a1_1] 24 ?_; intro gb106 hg w20 hbox hb; have BK106 := Aside0.mk (hbox); have GE106 := gw hg (hzs HB); have GW106 := GE106; have NB105_106 := nl hg (bk BK105); have NB106_105 := ng hg (bk BK105); replace BK105 := bb (bk BK105) hb; replace HB := hbb (hzs HB) hb; clear hb hbox hg; have hnb21 := NB105_106.out; have hnc21 := NB106_105.out; obtain ⟨hcz22_0, hcz22_1, hfz22_0, hfz22_1⟩ := cz2 BK105) | ((with_reducible refine gate_callee (f := 26) rfl ?_); refine gL 6 Try.func26 #[.agg #[.int .i64 a0_0, .int .i64 a0_1]] ?_; (with_reducible refine (spec_SpotOk.calls a0_0 a0_1 true _ A3.out).mono ?_); rintro e w23 ⟨rfl, hb⟩; refine ⟨_, rfl, ?_⟩; replace BK105 := bb (bk BK105) hb; replace BK106 := bb (bk BK106) hb; replace HB := hbb (hzs HB) hb; clear hb; obtain ⟨hcz24_0, hcz24_1, hfz24_0, hfz24_1⟩ := cz2 BK106) | (go_at_call 26; (with_reducible refine (spec_SpotOk.calls a1_0 a1_1 true _ A5.out).mono ?_); rintro e w25 ⟨rfl, hb⟩; replace BK105 := bb (bk BK105) hb; replace BK106 := bb (bk BK106) hb; replace HB := hbb (hzs HB) hb; clear hb; obtain ⟨hcz26_0, hcz26_1, hfz26_0, hfz26_1⟩ := cz2 BK105; obtain ⟨hcz27_0, hcz27_1, hfz27_0, hfz27_1⟩ := cz2 BK106) | (go_at_call 54; (with_reducible refine (spec_l21Pole.calls a0_0 a0_1 t109 _ A18.out).mono ?_); rintro e w28 ⟨rfl, hb⟩; replace BK105 := bb (bk BK105) hb; replace BK106 := bb (bk BK106) hb; replace HB := hbb (hzs HB) hb; clear hb))
     go_ret
     exact ⟨by first | rfl | (simp [errW_none, errW_some] <;> rfl) | (simp [*, errW_none, errW_some] <;> rfl), hzs HB⟩
   ·rw [if_neg c7] at H
    have c7b0 : (a0_0 == a1_0) = false := beq_eq_false_iff_ne.mpr c7
    have c7b1 : (a0_0 != a1_0) = true := bne_iff_ne.mpr c7
    obtain rfl := Option.some.inj H
    go_enter Try.func25, Try.ntmps25
    go_wp2_with (first | ((with_reducible refine gate_dst (N := 2) rfl ?_); refine bE 2 #[.int .i64 a0_0, .int .i64 a0_1] 24 ?_; intro gb105 hg w29 hbox hb; have BK105 := Aside0.mk (hbox); have GE105 := gw hg (hz0 HB); have GW105 := GE105; replace HB := hbb (hz0 HB) hb; clear hb hbox hg) | ((with_reducible refine gate_dst (N := 3) rfl ?_); refine bE 3 #[.int .i64 a1_0, .int .i64 a1_1] 24 ?_; intro gb106 hg w30 hbox hb; have BK106 := Aside0.mk (hbox); have GE106 := gw hg (hzs HB); have GW106 := GE106; have NB105_106 := nl hg (bk BK105); have NB106_105 := ng hg (bk BK105); replace BK105 := bb (bk BK105) hb; replace HB := hbb (hzs HB) hb; clear hb hbox hg; have hnb31 := NB105_106.out; have hnc31 := NB106_105.out; obtain ⟨hcz32_0, hcz32_1, hfz32_0, hfz32_1⟩ := cz2 BK105) | ((with_reducible refine gate_callee (f := 26) rfl ?_); refine gL 6 Try.func26 #[.agg #[.int .i64 a0_0, .int .i64 a0_1]] ?_; (with_reducible refine (spec_SpotOk.calls a0_0 a0_1 true _ A3.out).mono ?_); rintro e w33 ⟨rfl, hb⟩; refine ⟨_, rfl, ?_⟩; replace BK105 := bb (bk BK105) hb; replace BK106 := bb (bk BK106) hb; replace HB := hbb (hzs HB) hb; clear hb; obtain ⟨hcz34_0, hcz34_1, hfz34_0, hfz34_1⟩ := cz2 BK106) | (go_at_call 26; (with_reducible refine (spec_SpotOk.calls a1_0 a1_1 true _ A5.out).mono ?_); rintro e w35 ⟨rfl, hb⟩; replace BK105 := bb (bk BK105) hb; replace BK106 := bb (bk BK106) hb; replace HB := hbb (hzs HB) hb; clear hb; obtain ⟨hcz36_0, hcz36_1, hfz36_0, hfz36_1⟩ := cz2 BK105; obtain ⟨hcz37_0, hcz37_1, hfz37_0, hfz37_1⟩ := cz2 BK106))
    go_ret
    exact ⟨by first | rfl | (simp [errW_none, errW_some] <;> rfl) | (simp [*, errW_none, errW_some] <;> rfl), hzs HB⟩
  ·replace c6 := Bool.eq_false_iff.mpr c6
   subst c6
   have H1 : (some false) = some r := by rw [if_neg (show ¬ (false = true) by decide)] at H; exact H
   clear H
   have H := H1
   clear H1
   obtain rfl := Option.some.inj H
   go_enter Try.func25, Try.ntmps25
   go_wp2_with (first | ((with_reducible refine gate_dst (N := 2) rfl ?_); refine bE 2 #[.int .i64 a0_0, .int .i64 a0_1] 24 ?_; intro gb105 hg w38 hbox hb; have BK105 := Aside0.mk (hbox); have GE105 := gw hg (hz0 HB); have GW105 := GE105; replace HB := hbb (hz0 HB) hb; clear hb hbox hg) | ((with_reducible refine gate_dst (N := 3) rfl ?_); refine bE 3 #[.int .i64 a1_0, .int .i64 a1_1] 24 ?_; intro gb106 hg w39 hbox hb; have BK106 := Aside0.mk (hbox); have GE106 := gw hg (hzs HB); have GW106 := GE106; have NB105_106 := nl hg (bk BK105); have NB106_105 := ng hg (bk BK105); replace BK105 := bb (bk BK105) hb; replace HB := hbb (hzs HB) hb; clear hb hbox hg; have hnb40 := NB105_106.out; have hnc40 := NB106_105.out; obtain ⟨hcz41_0, hcz41_1, hfz41_0, hfz41_1⟩ := cz2 BK105) | ((with_reducible refine gate_callee (f := 26) rfl ?_); refine gL 6 Try.func26 #[.agg #[.int .i64 a0_0, .int .i64 a0_1]] ?_; (with_reducible refine (spec_SpotOk.calls a0_0 a0_1 true _ A3.out).mono ?_); rintro e w42 ⟨rfl, hb⟩; refine ⟨_, rfl, ?_⟩; replace BK105 := bb (bk BK105) hb; replace BK106 := bb (bk BK106) hb; replace HB := hbb (hzs HB) hb; clear hb; obtain ⟨hcz43_0, hcz43_1, hfz43_0, hfz43_1⟩ := cz2 BK106) | (go_at_call 26; (with_reducible refine (spec_SpotOk.calls a1_0 a1_1 false _ A5.out).mono ?_); rintro e w44 ⟨rfl, hb⟩; replace BK105 := bb (bk BK105) hb; replace BK106 := bb (bk BK106) hb; replace HB := hbb (hzs HB) hb; clear hb))
   go_ret
   exact ⟨by first | rfl | (simp [errW_none, errW_some] <;> rfl) | (simp [*, errW_none, errW_some] <;> rfl), hzs HB⟩
 ·replace c4 := Bool.eq_false_iff.mpr c4
  subst c4
  have H1 : (some false) = some r := by rw [if_neg (show ¬ (false = true) by decide)] at H; exact H
  clear H
  have H := H1
  clear H1
  obtain rfl := Option.some.inj H
  go_enter Try.func25, Try.ntmps25
  go_wp2_with (first | ((with_reducible refine gate_dst (N := 2) rfl ?_); refine bE 2 #[.int .i64 a0_0, .int .i64 a0_1] 24 ?_; intro gb105 hg w45 hbox hb; have BK105 := Aside0.mk (hbox); have GE105 := gw hg (hz0 HB); have GW105 := GE105; replace HB := hbb (hz0 HB) hb; clear hb hbox hg) | ((with_reducible refine gate_dst (N := 3) rfl ?_); refine bE 3 #[.int .i64 a1_0, .int .i64 a1_1] 24 ?_; intro gb106 hg w46 hbox hb; have BK106 := Aside0.mk (hbox); have GE106 := gw hg (hzs HB); have GW106 := GE106; have NB105_106 := nl hg (bk BK105); have NB106_105 := ng hg (bk BK105); replace BK105 := bb (bk BK105) hb; replace HB := hbb (hzs HB) hb; clear hb hbox hg; have hnb47 := NB105_106.out; have hnc47 := NB106_105.out; obtain ⟨hcz48_0, hcz48_1, hfz48_0, hfz48_1⟩ := cz2 BK105) | ((with_reducible refine gate_callee (f := 26) rfl ?_); refine gL 6 Try.func26 #[.agg #[.int .i64 a0_0, .int .i64 a0_1]] ?_; (with_reducible refine (spec_SpotOk.calls a0_0 a0_1 false _ A3.out).mono ?_); rintro e w49 ⟨rfl, hb⟩; refine ⟨_, rfl, ?_⟩; replace BK105 := bb (bk BK105) hb; replace BK106 := bb (bk BK106) hb; replace HB := hbb (hzs HB) hb; clear hb))
  go_ret
  exact ⟨by first | rfl | (simp [errW_none, errW_some] <;> rfl) | (simp [*, errW_none, errW_some] <;> rfl), hzs HB⟩


end Go.Proofs.Ytmcippkpgmehdaa.M
