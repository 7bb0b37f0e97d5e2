import Derived.Test.YtmcippkpgmehdaaP7
import Derived.Test.YtmcippkpgmehdaaP8
import Derived.Test.YtmcippkpgmehdaaDd
namespace Go.Proofs.Ytmcippkpgmehdaa.M
open Go.RowKit Go.Proofs.YtmcippkpgmehdaaW.PrintWords Go.Proofs.YtmcippkpgmehdaaW.PrintLast Go.Proofs.YtmcippkpgmehdaaW.PrintMore
attribute [local go_sem] max2_int min2_int max_two min_two max_three min_three max_four min_four
attribute [local go_sem high] eqA42 eqA29 eqA24
attribute [local go_sem] fld42_0 fld42_1 fld29_0 fld29_1 fld24_0 fld24_1 fld38_0 fld38_1 fld88_0 fld88_1 fld88_2 fld88_3 fld88_4
set_option linter.unusedVariables false
set_option linter.unusedSimpArgs false
/-! ### laws_FnSpotDistUp: function 12 -/
def laws_FnSpotDistUp.j0 : Nat → Bool → Bool → Bool → Int → Int → Int → Int → Int → Int → Int → Int → Option (Bool)
 | 0, _, _, _, _, _, _, _, _, _, _, _ => none
 | k + 1, x6, x8, x44, x504000, x504001, x505000, x505001, x509000, x509001, x513000, x513001 => if x44 = true then (if (x8 == x6) = true then (some (x513000 == x509000 && (x513001 == x509001))) else (some false)) else ((impl_SpotDist.f k x504000 x504001 x505000 x504001).bind fun bt513 => ((impl_SpotDist.f k x504000 x504001 32400000 x505001).bind fun bt517 => (if bt513.2.2 = true then (if bt517.2.2 = true then ((impl_FanHas.f bt513.1 bt513.2.1 (mx (wrap64 (x504000 - x505000)) (wrap64 (x505000 - x504000)))).bind fun t521 => (if t521 = true then ((impl_FanHas.f bt517.1 bt517.2.1 (wrap64 (32400000 - x504000))).bind fun t522 => (some t522)) else (some false))) else (some false)) else (some false))))
def laws_FnSpotDistUp.f (k : Nat) (l0 : List Int) : Option (Bool) := if (l0.length : Int) > 1048576 then (some true) else ((spec_DrawSpotDist.f k l0).bind fun bt499 => ((spec_SpotDist.f k bt499.1 bt499.2.1 bt499.2.2.1 bt499.2.2.2).bind fun bt505 => ((impl_SpotDist.f k bt499.1 bt499.2.1 bt499.2.2.1 bt499.2.2.2).bind fun bt509 => (if (bt509.2.2 != bt505.2.2) = true then (laws_FnSpotDistUp.j0 k bt505.2.2 bt509.2.2 true bt499.1 bt499.2.1 bt499.2.2.1 bt499.2.2.2 bt505.1 bt505.2.1 bt509.1 bt509.2.1) else (if (!(bt509.1 == bt505.1) || (!(bt509.2.1 == bt505.2.1))) = true then (laws_FnSpotDistUp.j0 k bt505.2.2 bt509.2.2 true bt499.1 bt499.2.1 bt499.2.2.1 bt499.2.2.2 bt505.1 bt505.2.1 bt509.1 bt509.2.1) else (laws_FnSpotDistUp.j0 k bt505.2.2 bt509.2.2 (!bt509.2.2) bt499.1 bt499.2.1 bt499.2.2.1 bt499.2.2.2 bt505.1 bt505.2.1 bt509.1 bt509.2.1))))))
set_option maxHeartbeats 8000000 in
set_option maxRecDepth 100000 in
theorem laws_FnSpotDistUp.calls (k : Nat) (A0 : Option Addr) (c0 : Nat) (l0 : List Int) (r : Bool) (w : World) (hr0 : Kd.C (Kd.int .u8) w A0 l0.length l0) (hc0 : l0.length ≤ c0) (h : laws_FnSpotDistUp.f k l0 = some r) :
  Calls Try.prog 12 #[.slice A0 l0.length c0] w fun e w' => e = .returned (.bool r) ∧ Below w.heap.size w w' := by
 have hu24 := Try.underlying24
 have hu29 := Try.underlying29
 have HR0 := Aside0.mk hr0
 have HC0 := Aside0.mk hc0
 clear hr0 hc0
 have HB := Aside0.mk (Below.refl w.heap.size w)
 have H : (if (l0.length : Int) > 1048576 then (some true) else ((spec_DrawSpotDist.f k l0).bind fun bt499 => ((spec_SpotDist.f k bt499.1 bt499.2.1 bt499.2.2.1 bt499.2.2.2).bind fun bt505 => ((impl_SpotDist.f k bt499.1 bt499.2.1 bt499.2.2.1 bt499.2.2.2).bind fun bt509 => (if (bt509.2.2 != bt505.2.2) = true then (laws_FnSpotDistUp.j0 k bt505.2.2 bt509.2.2 true bt499.1 bt499.2.1 bt499.2.2.1 bt499.2.2.2 bt505.1 bt505.2.1 bt509.1 bt509.2.1) else (if (!(bt509.1 == bt505.1) || (!(bt509.2.1 == bt505.2.1))) = true then (laws_FnSpotDistUp.j0 k bt505.2.2 bt509.2.2 true bt499.1 bt499.2.1 bt499.2.2.1 bt499.2.2.2 bt505.1 bt505.2.1 bt509.1 bt509.2.1) else (laws_FnSpotDistUp.j0 k bt505.2.2 bt509.2.2 (!bt509.2.2) bt499.1 bt499.2.1 bt499.2.2.1 bt499.2.2.2 bt505.1 bt505.2.1 bt509.1 bt509.2.1))))))) = some r := h
 clear h
 by_cases c2 : (l0.length : Int) > 1048576
 ·rw [if_pos c2] at H
  have c2b0 : decide (1048576 < (l0.length : Int)) = true := decide_eq_true c2
  have c2b1 : decide (1048576 < l0.length) = true := decide_eq_true (by omega)
  clear c2
  obtain rfl := Option.some.inj H
  go_enter Try.func12, Try.ntmps12
  go_wp2
  go_ret
  exact ⟨by first | rfl | (simp [errW_none, errW_some] <;> rfl) | (simp [*, errW_none, errW_some] <;> rfl), h0_ HB⟩
 ·rw [if_neg c2] at H
  have c2b0 : decide (1048576 < (l0.length : Int)) = false := decide_eq_false c2
  have c2b1 : decide (1048576 < l0.length) = false := decide_eq_false (by omega)
  clear c2
  replace H := Option.bind_eq_some_iff.mp H
  obtain ⟨⟨t499, t500, t501, t502⟩, A30, H⟩ := H
  replace H : ((spec_SpotDist.f k t499 t500 t501 t502).bind fun bt505 => ((impl_SpotDist.f k t499 t500 t501 t502).bind fun bt509 => (if (bt509.2.2 != bt505.2.2) = true then (laws_FnSpotDistUp.j0 k bt505.2.2 bt509.2.2 true t499 t500 t501 t502 bt505.1 bt505.2.1 bt509.1 bt509.2.1) else (if (!(bt509.1 == bt505.1) || (!(bt509.2.1 == bt505.2.1))) = true then (laws_FnSpotDistUp.j0 k bt505.2.2 bt509.2.2 true t499 t500 t501 t502 bt505.1 bt505.2.1 bt509.1 bt509.2.1) else (laws_FnSpotDistUp.j0 k bt505.2.2 bt509.2.2 (!bt509.2.2) t499 t500 t501 t502 bt505.1 bt505.2.1 bt509.1 bt509.2.1))))) = some r := H
  have A3 := Aside0.mk A30
  clear A30
  replace H := Option.bind_eq_some_iff.mp H
  obtain ⟨⟨t505, t506, t507⟩, A40, H⟩ := H
  replace H : ((impl_SpotDist.f k t499 t500 t501 t502).bind fun bt509 => (if (bt509.2.2 != t507) = true then (laws_FnSpotDistUp.j0 k t507 bt509.2.2 true t499 t500 t501 t502 t505 t506 bt509.1 bt509.2.1) else (if (!(bt509.1 == t505) || (!(bt509.2.1 == t506))) = true then (laws_FnSpotDistUp.j0 k t507 bt509.2.2 true t499 t500 t501 t502 t505 t506 bt509.1 bt509.2.1) else (laws_FnSpotDistUp.j0 k t507 bt509.2.2 (!bt509.2.2) t499 t500 t501 t502 t505 t506 bt509.1 bt509.2.1)))) = some r := H
  have A4 := Aside0.mk A40
  clear A40
  replace H := Option.bind_eq_some_iff.mp H
  obtain ⟨⟨t509, t510, t511⟩, A50, H⟩ := H
  replace H : (if (t511 != t507) = true then (laws_FnSpotDistUp.j0 k t507 t511 true t499 t500 t501 t502 t505 t506 t509 t510) else (if (!(t509 == t505) || (!(t510 == t506))) = true then (laws_FnSpotDistUp.j0 k t507 t511 true t499 t500 t501 t502 t505 t506 t509 t510) else (laws_FnSpotDistUp.j0 k t507 t511 (!t511) t499 t500 t501 t502 t505 t506 t509 t510))) = some r := H
  have A5 := Aside0.mk A50
  clear A50
  have HC6 := Aside0.mk H
  clear H
  go_enter Try.func12, Try.ntmps12
  go_upto_region 6 with (first | ((with_reducible refine gate_callee (f := 35) rfl ?_); refine gL 18 Try.func35 #[.slice A0 l0.length c0] ?_; (with_reducible refine (spec_DrawSpotDist.calls k _ _ l0 t499 t500 t501 t502 _ ?side1 ?side2 A3.out).mono ?_); (case side1 => repeat (first | exact HR0.out | (with_reducible refine Kd.C_alloc ?_ _) | (with_reducible refine Kd.C_drewN ?_ _) | (with_reducible refine Kd.C_drew ?_))); (case side2 => exact HC0.out); rintro e w7 ⟨rfl, hb⟩; refine ⟨_, rfl, ?_⟩; replace HB := hbb (h0_ HB) hb; clear hb) | ((with_reducible refine gate_dst (N := 3) rfl ?_); (try (refine gate_guard (by rfl) ?_; dsimp only)); refine bE 3 #[.int .i64 0, .int .i64 0] 24 ?_; intro gb503 hg w8 hbox hb; have BK503 := Aside0.mk (hbox); have GE503 := gw hg (h0_ HB); have GW503 := GE503; replace HB := hbb (h0_ HB) hb; clear hb hbox hg) | ((with_reducible refine gate_dst (N := 4) rfl ?_); (try (refine gate_guard (by rfl) ?_; dsimp only)); refine bE 4 #[.int .i64 0, .int .i64 0] 24 ?_; intro gb504 hg w9 hbox hb; have BK504 := Aside0.mk (hbox); have GE504 := gw hg (hs_ HB); have GW504 := GE504; have NB503_504 := nl hg (bk BK503); have NB504_503 := ng hg (bk BK503); replace BK503 := bb (bk BK503) hb; replace HB := hbb (hs_ HB) hb; clear hb hbox hg; have hnb10 := NB503_504.out; have hnc10 := NB504_503.out; obtain ⟨hcz11_0, hcz11_1, hfz11_0, hfz11_1⟩ := cz2 BK503; obtain ⟨hcz12_0, hcz12_1, hfz12_0, hfz12_1⟩ := cz2 BK504) | ((with_reducible refine gate_callee (f := 36) rfl ?_); refine gL 24 Try.func36 #[.agg #[.int .i64 t499, .int .i64 t500], .agg #[.int .i64 t501, .int .i64 t502]] ?_; (with_reducible refine (spec_SpotDist.calls k t499 t500 t501 t502 t505 t506 t507 _ A4.out).mono ?_); rintro e w13 ⟨rfl, hb⟩; refine ⟨_, rfl, ?_⟩; replace BK503 := bb (o := .cells #[.int .i64 t499, .int .i64 t500] 24 (0, 0)) (bkp BK503) hb; replace BK504 := bb (o := .cells #[.int .i64 t501, .int .i64 t502] 24 (0, 0)) (bkp BK504) hb; replace HB := hbb (hs_ HB) hb; clear hb) | ((with_reducible refine gate_dst (N := 5) rfl ?_); (try (refine gate_guard (by rfl) ?_; dsimp only)); refine bE 5 #[.int .i64 0, .int .i64 0] 29 ?_; intro gb508 hg w14 hbox hb; have BK508 := Aside0.mk (hbox); have GE508 := gw hg (hs_ HB); have GW508 := GE508; have NB503_508 := nl hg (bk BK503); have NB508_503 := ng hg (bk BK503); have NB504_508 := nl hg (bk BK504); have NB508_504 := ng hg (bk BK504); replace BK503 := bb (bk BK503) hb; replace BK504 := bb (bk BK504) hb; replace HB := hbb (hs_ HB) hb; clear hb hbox hg; have hnb15 := NB508_503.out; have hnc15 := NB503_508.out; have hnb16 := NB508_504.out; have hnc16 := NB504_508.out; obtain ⟨hcz17_0, hcz17_1, hfz17_0, hfz17_1⟩ := cz2 BK508; obtain ⟨hcz18_0, hcz18_1, hfz18_0, hfz18_1⟩ := cz2 BK503; obtain ⟨hcz19_0, hcz19_1, hfz19_0, hfz19_1⟩ := cz2 BK504) | ((with_reducible refine gate_callee (f := 20) rfl ?_); refine gL 30 Try.func20 #[.agg #[.int .i64 t499, .int .i64 t500], .agg #[.int .i64 t501, .int .i64 t502]] ?_; (with_reducible refine (impl_SpotDist.calls k t499 t500 t501 t502 t509 t510 t511 _ A5.out).mono ?_); rintro e w20 ⟨rfl, hb⟩; refine ⟨_, rfl, ?_⟩; replace BK503 := bb (bk1 BK503 NB503_508) hb; replace BK504 := bb (bk1 BK504 NB504_508) hb; replace BK508 := bb (o := .cells #[.int .i64 t505, .int .i64 t506] 29 (0, 0)) (bkp BK508) hb; replace HB := hbb (hs_ HB) hb; clear hb) | ((with_reducible refine gate_dst (N := 7) rfl ?_); (try (refine gate_guard (by rfl) ?_; dsimp only)); refine bE 7 #[.int .i64 0, .int .i64 0] 29 ?_; intro gb512 hg w21 hbox hb; have BK512 := Aside0.mk (hbox); have GE512 := gw hg (hs_ HB); have GW512 := GE512; have NB503_512 := nl hg (bk BK503); have NB512_503 := ng hg (bk BK503); have NB504_512 := nl hg (bk BK504); have NB512_504 := ng hg (bk BK504); have NB508_512 := nl hg (bk BK508); have NB512_508 := ng hg (bk BK508); replace BK503 := bb (bk BK503) hb; replace BK504 := bb (bk BK504) hb; replace BK508 := bb (bk BK508) hb; replace HB := hbb (hs_ HB) hb; clear hb hbox hg; have hnb22 := NB512_503.out; have hnc22 := NB503_512.out; have hnb23 := NB512_504.out; have hnc23 := NB504_512.out; have hnb24 := NB512_508.out; have hnc24 := NB508_512.out; obtain ⟨hcz25_0, hcz25_1, hfz25_0, hfz25_1⟩ := cz2 BK512))
  (try simp only [Act.put, List.setIfInBounds_toArray, List.set_cons_zero, List.set_cons_succ])
  go_cut [44] (fun v44 wc => ∃ (kq : Nat) (x44_5 : Bool), v44 = .bool x44_5 ∧ Aside0 (laws_FnSpotDistUp.j0 kq t507 t511 x44_5 t499 t500 t501 t502 t505 t506 t509 t510 = some r) ∧ Aside0 (kq ≤ k) ∧ Aside0 (wc.heap[gb503]? = some (.cells #[.int .i64 t499, .int .i64 t500] 24 (0, 0))) ∧ Aside0 (wc.heap[gb504]? = some (.cells #[.int .i64 t501, .int .i64 t502] 24 (0, 0))) ∧ Aside0 (wc.heap[gb508]? = some (.cells #[.int .i64 t505, .int .i64 t506] 29 (0, 0))) ∧ Aside0 (wc.heap[gb512]? = some (.cells #[.int .i64 t509, .int .i64 t510] 29 (0, 0))) ∧ Aside0 (Below w.heap.size w wc))
  case first =>
   have H := HC6.out
   clear HC6
   by_cases c26 : (t511 != t507) = true
   ·rw [if_pos c26] at H
    have c26b0 : (t511 != t507) = true := c26
    (try (have c26b1 : decide (t511 = t507) = false := by simpa using c26))
    (try (have c26b2 : (t511 == t507) = false := by simpa using c26))
    (try (have c26b3 : ¬ (t511 = t507) := by simpa using c26))
    clear c26
    (first | rw [c26b0] | (simp only [i64_w, i32_w]; rw [c26b0]) | skip)
    have H' := Aside0.mk H
    clear H
    go_wp2
    go_meet
    case rel => exact ⟨_, (true), (by first | rfl | (simp; done) | (simp [*]; done)), H', ⟨by first | omega | exact Nat.le_refl _⟩, ⟨bk1 BK503 NB503_512⟩, ⟨bk1 BK504 NB504_512⟩, ⟨bk1 BK508 NB508_512⟩, ⟨bkp BK512⟩, ⟨hs_ HB⟩⟩
   ·rw [if_neg c26] at H
    have c26b0 : (t511 != t507) = false := by simpa using c26
    (try (have c26b1 : decide (t511 = t507) = true := by simpa using c26))
    (try (have c26b2 : (t511 == t507) = true := by simpa using c26))
    clear c26
    (first | rw [c26b0] | (simp only [i64_w, i32_w]; rw [c26b0]) | skip)
    by_cases c27 : (!(t509 == t505) || (!(t510 == t506))) = true
    ·rw [if_pos c27] at H
     have c27b0 : (!(t509 == t505) || (!(t510 == t506))) = true := c27
     clear c27
     have H' := Aside0.mk H
     clear H
     have hnb28 := NB512_503.out
     have hnc28 := NB503_512.out
     have hnb29 := NB512_504.out
     have hnc29 := NB504_512.out
     have hnb30 := NB512_508.out
     have hnc30 := NB508_512.out
     obtain ⟨hcz31_0, hcz31_1, hfz31_0, hfz31_1⟩ := cz2 BK512
     have hnb32 := NB508_503.out
     have hnc32 := NB503_508.out
     have hnb33 := NB508_504.out
     have hnc33 := NB504_508.out
     obtain ⟨hcz34_0, hcz34_1, hfz34_0, hfz34_1⟩ := cz2 BK508
     go_wp2
     go_meet
     case rel => exact ⟨_, (true), (by first | rfl | (simp; done) | (simp [*]; done)), H', ⟨by first | omega | exact Nat.le_refl _⟩, ⟨bk1 BK503 NB503_512⟩, ⟨bk1 BK504 NB504_512⟩, ⟨bk1 BK508 NB508_512⟩, ⟨bkp BK512⟩, ⟨hs_ HB⟩⟩
    ·rw [if_neg c27] at H
     have c27b0 : (!(t509 == t505) || (!(t510 == t506))) = false := by simpa using c27
     clear c27
     have H' := Aside0.mk H
     clear H
     have hnb35 := NB512_503.out
     have hnc35 := NB503_512.out
     have hnb36 := NB512_504.out
     have hnc36 := NB504_512.out
     have hnb37 := NB512_508.out
     have hnc37 := NB508_512.out
     obtain ⟨hcz38_0, hcz38_1, hfz38_0, hfz38_1⟩ := cz2 BK512
     have hnb39 := NB508_503.out
     have hnc39 := NB503_508.out
     have hnb40 := NB508_504.out
     have hnc40 := NB504_508.out
     obtain ⟨hcz41_0, hcz41_1, hfz41_0, hfz41_1⟩ := cz2 BK508
     go_wp2
     go_meet
     case rel => exact ⟨_, (!t511), (by first | rfl | (simp; done) | (simp [*]; done)), H', ⟨by first | omega | exact Nat.le_refl _⟩, ⟨bk1 BK503 NB503_512⟩, ⟨bk1 BK504 NB504_512⟩, ⟨bk1 BK508 NB508_512⟩, ⟨bkp BK512⟩, ⟨hs_ HB⟩⟩
  case rest =>
   clear HC6
   try clear c1
   try clear c2
   try clear c2b0
   try clear c2b1
   try clear p2
   try clear c3
   try clear c4
   try clear c10
   try clear c12
   try clear c15
   try clear c16
   try clear c20
   try clear c22
   try clear c23
   try clear c24
   try clear c26
   try clear c26b0
   try clear c26b1
   try clear c26b2
   try clear c27
   try clear c27b0
   try clear c28
   try clear c29
   try clear c30
   try clear c32
   try clear c33
   try clear c35
   try clear c36
   try clear c37
   try clear c39
   try clear c40
   try clear hcz11_0
   try clear hcz11_1
   try clear hcz12_0
   try clear hcz12_1
   try clear hcz17_0
   try clear hcz17_1
   try clear hcz18_0
   try clear hcz18_1
   try clear hcz19_0
   try clear hcz19_1
   try clear hcz25_0
   try clear hcz25_1
   try clear hcz31_0
   try clear hcz31_1
   try clear hcz34_0
   try clear hcz34_1
   try clear hcz38_0
   try clear hcz38_1
   try clear hcz41_0
   try clear hcz41_1
   try clear hfz11_0
   try clear hfz11_1
   try clear hfz12_0
   try clear hfz12_1
   try clear hfz17_0
   try clear hfz17_1
   try clear hfz18_0
   try clear hfz18_1
   try clear hfz19_0
   try clear hfz19_1
   try clear hfz25_0
   try clear hfz25_1
   try clear hfz31_0
   try clear hfz31_1
   try clear hfz34_0
   try clear hfz34_1
   try clear hfz38_0
   try clear hfz38_1
   try clear hfz41_0
   try clear hfz41_1
   obtain ⟨kq, x44_5, rfl, HA, HJ5, BK503, BK504, BK508, BK512, HB⟩ := hcut
   cases kq with
   | zero => exact absurd HA.out (by simp [laws_FnSpotDistUp.j0])
   | succ kj5 =>
    have H := HA.out
    clear HA
    simp only [laws_FnSpotDistUp.j0] at H
    by_cases c42 : x44_5 = true
    ·subst c42
     have H1 : (if (t511 == t507) = true then (some (t509 == t505 && (t510 == t506))) else (some false)) = some r := by rw [if_pos rfl] at H; exact H
     clear H
     have H := H1
     clear H1
     by_cases c43 : (t511 == t507) = true
     ·rw [if_pos c43] at H
      have c43b0 : (t511 == t507) = true := c43
      (try (have c43b1 : decide (t511 = t507) = true := by simpa using c43))
      (try (have c43b2 : (t511 == t507) = true := by simpa using c43))
      clear c43
      obtain rfl := Option.some.inj H
      have hnb44 := NB512_503.out
      have hnc44 := NB503_512.out
      have hnb45 := NB512_504.out
      have hnc45 := NB504_512.out
      have hnb46 := NB512_508.out
      have hnc46 := NB508_512.out
      obtain ⟨hcz47_0, hcz47_1, hfz47_0, hfz47_1⟩ := cz2 BK512
      have hnb48 := NB508_503.out
      have hnc48 := NB503_508.out
      have hnb49 := NB508_504.out
      have hnc49 := NB504_508.out
      obtain ⟨hcz50_0, hcz50_1, hfz50_0, hfz50_1⟩ := cz2 BK508
      go_wp2
      go_ret
      exact ⟨by first | rfl | (simp [errW_none, errW_some] <;> rfl) | (simp [*, errW_none, errW_some] <;> rfl), hs_ HB⟩
     ·rw [if_neg c43] at H
      have c43b0 : (t511 == t507) = false := by simpa using c43
      (try (have c43b1 : decide (t511 = t507) = false := by simpa using c43))
      (try (have c43b2 : (t511 == t507) = false := by simpa using c43))
      (try (have c43b3 : ¬ (t511 = t507) := by simpa using c43))
      clear c43
      obtain rfl := Option.some.inj H
      go_wp2
      go_ret
      exact ⟨by first | rfl | (simp [errW_none, errW_some] <;> rfl) | (simp [*, errW_none, errW_some] <;> rfl), hs_ HB⟩
    ·replace c42 := Bool.eq_false_iff.mpr c42
     subst c42
     have H1 : ((impl_SpotDist.f kj5 t499 t500 t501 t500).bind fun bt513 => ((impl_SpotDist.f kj5 t499 t500 32400000 t502).bind fun bt517 => (if bt513.2.2 = true then (if bt517.2.2 = true then ((impl_FanHas.f bt513.1 bt513.2.1 (mx (wrap64 (t499 - t501)) (wrap64 (t501 - t499)))).bind fun t521 => (if t521 = true then ((impl_FanHas.f bt517.1 bt517.2.1 (wrap64 (32400000 - t499))).bind fun t522 => (some t522)) else (some false))) else (some false)) else (some false)))) = some r := by rw [if_neg (show ¬ (false = true) by decide)] at H; exact H
     clear H
     have H := H1
     clear H1
     replace H := Option.bind_eq_some_iff.mp H
     obtain ⟨⟨t513, t514, t515⟩, A510, H⟩ := H
     replace H : ((impl_SpotDist.f kj5 t499 t500 32400000 t502).bind fun bt517 => (if t515 = true then (if bt517.2.2 = true then ((impl_FanHas.f t513 t514 (mx (wrap64 (t499 - t501)) (wrap64 (t501 - t499)))).bind fun t521 => (if t521 = true then ((impl_FanHas.f bt517.1 bt517.2.1 (wrap64 (32400000 - t499))).bind fun t522 => (some t522)) else (some false))) else (some false)) else (some false))) = some r := H
     have A51 := Aside0.mk A510
     clear A510
     replace H := Option.bind_eq_some_iff.mp H
     obtain ⟨⟨t517, t518, t519⟩, A520, H⟩ := H
     replace H : (if t515 = true then (if t519 = true then ((impl_FanHas.f t513 t514 (mx (wrap64 (t499 - t501)) (wrap64 (t501 - t499)))).bind fun t521 => (if t521 = true then ((impl_FanHas.f t517 t518 (wrap64 (32400000 - t499))).bind fun t522 => (some t522)) else (some false))) else (some false)) else (some false)) = some r := H
     have A52 := Aside0.mk A520
     clear A520
     by_cases c53 : t515 = true
     ·subst c53
      have H1 : (if t519 = true then ((impl_FanHas.f t513 t514 (mx (wrap64 (t499 - t501)) (wrap64 (t501 - t499)))).bind fun t521 => (if t521 = true then ((impl_FanHas.f t517 t518 (wrap64 (32400000 - t499))).bind fun t522 => (some t522)) else (some false))) else (some false)) = some r := by rw [if_pos rfl] at H; exact H
      clear H
      have H := H1
      clear H1
      by_cases c54 : t519 = true
      ·subst c54
       have H1 : ((impl_FanHas.f t513 t514 (mx (wrap64 (t499 - t501)) (wrap64 (t501 - t499)))).bind fun t521 => (if t521 = true then ((impl_FanHas.f t517 t518 (wrap64 (32400000 - t499))).bind fun t522 => (some t522)) else (some false))) = some r := by rw [if_pos rfl] at H; exact H
       clear H
       have H := H1
       clear H1
       obtain ⟨ji55, hji55⟩ : ∃ j_ : Int, (mx (wrap64 (t499 - t501)) (wrap64 (t501 - t499))) = j_ := ⟨_, rfl⟩
       replace H : ((impl_FanHas.f t513 t514 (ji55)).bind fun t521 => (if t521 = true then ((impl_FanHas.f t517 t518 (wrap64 (32400000 - t499))).bind fun t522 => (some t522)) else (some false))) = some r := by first | (rw [hji55] at H; exact H) | (simp only [hji55] at H ⊢; exact H)
       (try rw [hji55] at A51)
       (try rw [hji55] at A52)
       have hji55_ : (if (wrap64 (t499 - t501)) < (wrap64 (t501 - t499)) then (wrap64 (t501 - t499)) else (wrap64 (t499 - t501))) = ji55 := hji55
       replace H := Option.bind_eq_some_iff.mp H
       obtain ⟨t521, A560, H⟩ := H
       replace H : (if t521 = true then ((impl_FanHas.f t517 t518 (wrap64 (32400000 - t499))).bind fun t522 => (some t522)) else (some false)) = some r := H
       have A56 := Aside0.mk A560
       clear A560
       by_cases c57 : t521 = true
       ·subst c57
        have H1 : ((impl_FanHas.f t517 t518 (wrap64 (32400000 - t499))).bind fun t522 => (some t522)) = some r := by rw [if_pos rfl] at H; exact H
        clear H
        have H := H1
        clear H1
        replace H := Option.bind_eq_some_iff.mp H
        obtain ⟨t522, A580, H⟩ := H
        replace H : (some t522) = some r := H
        have A58 := Aside0.mk A580
        clear A580
        obtain rfl := Option.some.inj H
        have hnb59 := NB503_504.out
        have hnc59 := NB504_503.out
        have hnb60 := NB503_508.out
        have hnc60 := NB508_503.out
        have hnb61 := NB503_512.out
        have hnc61 := NB512_503.out
        obtain ⟨hcz62_0, hcz62_1, hfz62_0, hfz62_1⟩ := cz2 BK503
        have hnb63 := NB504_508.out
        have hnc63 := NB508_504.out
        have hnb64 := NB504_512.out
        have hnc64 := NB512_504.out
        obtain ⟨hcz65_0, hcz65_1, hfz65_0, hfz65_1⟩ := cz2 BK504
        go_wp2_with (first | ((with_reducible refine gate_callee (f := 20) rfl ?_); refine gL 60 Try.func20 #[.agg #[.int .i64 t499, .int .i64 t500], .agg #[.int .i64 t501, .int .i64 t500]] ?_; (with_reducible refine (impl_SpotDist.calls kj5 t499 t500 t501 t500 t513 t514 true _ A51.out).mono ?_); rintro e w66 ⟨rfl, hb⟩; refine ⟨_, rfl, ?_⟩; replace BK503 := bb (bk BK503) hb; replace BK504 := bb (bk BK504) hb; replace BK508 := bb (bk BK508) hb; replace BK512 := bb (bk BK512) hb; replace HB := hbb (hs_ HB) hb; clear hb) | ((with_reducible refine gate_dst (N := 9) rfl ?_); (try (refine gate_guard (by rfl) ?_; dsimp only)); refine bE 9 #[.int .i64 0, .int .i64 0] 29 ?_; intro gb516 hg w67 hbox hb; have BK516 := Aside0.mk (hbox); have GE516 := gw hg (hs_ HB); have GW516 := GE516; have NB503_516 := nl hg (bk BK503); have NB516_503 := ng hg (bk BK503); have NB504_516 := nl hg (bk BK504); have NB516_504 := ng hg (bk BK504); have NB508_516 := nl hg (bk BK508); have NB516_508 := ng hg (bk BK508); have NB512_516 := nl hg (bk BK512); have NB516_512 := ng hg (bk BK512); replace BK503 := bb (bk BK503) hb; replace BK504 := bb (bk BK504) hb; replace BK508 := bb (bk BK508) hb; replace BK512 := bb (bk BK512) hb; replace HB := hbb (hs_ HB) hb; clear hb hbox hg; have hnb68 := NB516_503.out; have hnc68 := NB503_516.out; have hnb69 := NB516_504.out; have hnc69 := NB504_516.out; have hnb70 := NB516_508.out; have hnc70 := NB508_516.out; have hnb71 := NB516_512.out; have hnc71 := NB512_516.out; obtain ⟨hcz72_0, hcz72_1, hfz72_0, hfz72_1⟩ := cz2 BK516; obtain ⟨hcz73_0, hcz73_1, hfz73_0, hfz73_1⟩ := cz2 BK503; obtain ⟨hcz74_0, hcz74_1, hfz74_0, hfz74_1⟩ := cz2 BK504) | ((with_reducible refine gate_callee (f := 20) rfl ?_); refine gL 68 Try.func20 #[.agg #[.int .i64 t499, .int .i64 t500], .agg #[.int .i64 32400000, .int .i64 t502]] ?_; (with_reducible refine (impl_SpotDist.calls kj5 t499 t500 32400000 t502 t517 t518 true _ A52.out).mono ?_); rintro e w75 ⟨rfl, hb⟩; refine ⟨_, rfl, ?_⟩; replace BK503 := bb (bk1 BK503 NB503_516) hb; replace BK504 := bb (bk1 BK504 NB504_516) hb; replace BK508 := bb (bk1 BK508 NB508_516) hb; replace BK512 := bb (bk1 BK512 NB512_516) hb; replace BK516 := bb (o := .cells #[.int .i64 t513, .int .i64 t514] 29 (0, 0)) (bkp BK516) hb; replace HB := hbb (hs_ HB) hb; clear hb) | ((with_reducible refine gate_dst (N := 11) rfl ?_); (try (refine gate_guard (by rfl) ?_; dsimp only)); refine bE 11 #[.int .i64 0, .int .i64 0] 29 ?_; intro gb520 hg w76 hbox hb; have BK520 := Aside0.mk (hbox); have GE520 := gw hg (hs_ HB); have GW520 := GE520; have NB503_520 := nl hg (bk BK503); have NB520_503 := ng hg (bk BK503); have NB504_520 := nl hg (bk BK504); have NB520_504 := ng hg (bk BK504); have NB508_520 := nl hg (bk BK508); have NB520_508 := ng hg (bk BK508); have NB512_520 := nl hg (bk BK512); have NB520_512 := ng hg (bk BK512); have NB516_520 := nl hg (bk BK516); have NB520_516 := ng hg (bk BK516); replace BK503 := bb (bk BK503) hb; replace BK504 := bb (bk BK504) hb; replace BK508 := bb (bk BK508) hb; replace BK512 := bb (bk BK512) hb; replace BK516 := bb (bk BK516) hb; replace HB := hbb (hs_ HB) hb; clear hb hbox hg; have hnb77 := NB520_503.out; have hnc77 := NB503_520.out; have hnb78 := NB520_504.out; have hnc78 := NB504_520.out; have hnb79 := NB520_508.out; have hnc79 := NB508_520.out; have hnb80 := NB520_512.out; have hnc80 := NB512_520.out; have hnb81 := NB520_516.out; have hnc81 := NB516_520.out; obtain ⟨hcz82_0, hcz82_1, hfz82_0, hfz82_1⟩ := cz2 BK520; obtain ⟨hcz83_0, hcz83_1, hfz83_0, hfz83_1⟩ := cz2 BK516; obtain ⟨hcz84_0, hcz84_1, hfz84_0, hfz84_1⟩ := cz2 BK503; obtain ⟨hcz85_0, hcz85_1, hfz85_0, hfz85_1⟩ := cz2 BK504) | (go_at_call 22; (with_reducible refine (impl_FanHas.calls t513 t514 ji55 true _ A56.out).mono ?_); rintro e w86 ⟨rfl, hb⟩; replace BK503 := bb (bk1 BK503 NB503_520) hb; replace BK504 := bb (bk1 BK504 NB504_520) hb; replace BK508 := bb (bk1 BK508 NB508_520) hb; replace BK512 := bb (bk1 BK512 NB512_520) hb; replace BK516 := bb (bk1 BK516 NB516_520) hb; replace BK520 := bb (o := .cells #[.int .i64 t517, .int .i64 t518] 29 (0, 0)) (bkp BK520) hb; replace HB := hbb (hs_ HB) hb; clear hb; obtain ⟨hcz87_0, hcz87_1, hfz87_0, hfz87_1⟩ := cz2 BK520; obtain ⟨hcz88_0, hcz88_1, hfz88_0, hfz88_1⟩ := cz2 BK503) | (go_at_call 22; (with_reducible refine (impl_FanHas.calls t517 t518 (wrap64 (32400000 - t499)) t522 _ A58.out).mono ?_); rintro e w89 ⟨rfl, hb⟩; replace BK503 := bb (bk BK503) hb; replace BK504 := bb (bk BK504) hb; replace BK508 := bb (bk BK508) hb; replace BK512 := bb (bk BK512) hb; replace BK516 := bb (bk BK516) hb; replace BK520 := bb (bk BK520) hb; replace HB := hbb (hs_ HB) hb; clear hb))
        go_ret
        exact ⟨by first | rfl | (simp [errW_none, errW_some] <;> rfl) | (simp only [← hji55]; first | rfl | (simp [errW_none, errW_some] <;> rfl)) | (simp [*, errW_none, errW_some] <;> rfl), hs_ HB⟩
       ·replace c57 := Bool.eq_false_iff.mpr c57
        subst c57
        have H1 : (some false) = some r := by rw [if_neg (show ¬ (false = true) by decide)] at H; exact H
        clear H
        have H := H1
        clear H1
        obtain rfl := Option.some.inj H
        have hnb90 := NB503_504.out
        have hnc90 := NB504_503.out
        have hnb91 := NB503_508.out
        have hnc91 := NB508_503.out
        have hnb92 := NB503_512.out
        have hnc92 := NB512_503.out
        obtain ⟨hcz93_0, hcz93_1, hfz93_0, hfz93_1⟩ := cz2 BK503
        have hnb94 := NB504_508.out
        have hnc94 := NB508_504.out
        have hnb95 := NB504_512.out
        have hnc95 := NB512_504.out
        obtain ⟨hcz96_0, hcz96_1, hfz96_0, hfz96_1⟩ := cz2 BK504
        go_wp2_with (first | ((with_reducible refine gate_callee (f := 20) rfl ?_); refine gL 60 Try.func20 #[.agg #[.int .i64 t499, .int .i64 t500], .agg #[.int .i64 t501, .int .i64 t500]] ?_; (with_reducible refine (impl_SpotDist.calls kj5 t499 t500 t501 t500 t513 t514 true _ A51.out).mono ?_); rintro e w97 ⟨rfl, hb⟩; refine ⟨_, rfl, ?_⟩; replace BK503 := bb (bk BK503) hb; replace BK504 := bb (bk BK504) hb; replace BK508 := bb (bk BK508) hb; replace BK512 := bb (bk BK512) hb; replace HB := hbb (hs_ HB) hb; clear hb) | ((with_reducible refine gate_dst (N := 9) rfl ?_); (try (refine gate_guard (by rfl) ?_; dsimp only)); refine bE 9 #[.int .i64 0, .int .i64 0] 29 ?_; intro gb516 hg w98 hbox hb; have BK516 := Aside0.mk (hbox); have GE516 := gw hg (hs_ HB); have GW516 := GE516; have NB503_516 := nl hg (bk BK503); have NB516_503 := ng hg (bk BK503); have NB504_516 := nl hg (bk BK504); have NB516_504 := ng hg (bk BK504); have NB508_516 := nl hg (bk BK508); have NB516_508 := ng hg (bk BK508); have NB512_516 := nl hg (bk BK512); have NB516_512 := ng hg (bk BK512); replace BK503 := bb (bk BK503) hb; replace BK504 := bb (bk BK504) hb; replace BK508 := bb (bk BK508) hb; replace BK512 := bb (bk BK512) hb; replace HB := hbb (hs_ HB) hb; clear hb hbox hg; have hnb99 := NB516_503.out; have hnc99 := NB503_516.out; have hnb100 := NB516_504.out; have hnc100 := NB504_516.out; have hnb101 := NB516_508.out; have hnc101 := NB508_516.out; have hnb102 := NB516_512.out; have hnc102 := NB512_516.out; obtain ⟨hcz103_0, hcz103_1, hfz103_0, hfz103_1⟩ := cz2 BK516; obtain ⟨hcz104_0, hcz104_1, hfz104_0, hfz104_1⟩ := cz2 BK503; obtain ⟨hcz105_0, hcz105_1, hfz105_0, hfz105_1⟩ := cz2 BK504) | ((with_reducible refine gate_callee (f := 20) rfl ?_); refine gL 68 Try.func20 #[.agg #[.int .i64 t499, .int .i64 t500], .agg #[.int .i64 32400000, .int .i64 t502]] ?_; (with_reducible refine (impl_SpotDist.calls kj5 t499 t500 32400000 t502 t517 t518 true _ A52.out).mono ?_); rintro e w106 ⟨rfl, hb⟩; refine ⟨_, rfl, ?_⟩; replace BK503 := bb (bk1 BK503 NB503_516) hb; replace BK504 := bb (bk1 BK504 NB504_516) hb; replace BK508 := bb (bk1 BK508 NB508_516) hb; replace BK512 := bb (bk1 BK512 NB512_516) hb; replace BK516 := bb (o := .cells #[.int .i64 t513, .int .i64 t514] 29 (0, 0)) (bkp BK516) hb; replace HB := hbb (hs_ HB) hb; clear hb) | ((with_reducible refine gate_dst (N := 11) rfl ?_); (try (refine gate_guard (by rfl) ?_; dsimp only)); refine bE 11 #[.int .i64 0, .int .i64 0] 29 ?_; intro gb520 hg w107 hbox hb; have BK520 := Aside0.mk (hbox); have GE520 := gw hg (hs_ HB); have GW520 := GE520; have NB503_520 := nl hg (bk BK503); have NB520_503 := ng hg (bk BK503); have NB504_520 := nl hg (bk BK504); have NB520_504 := ng hg (bk BK504); have NB508_520 := nl hg (bk BK508); have NB520_508 := ng hg (bk BK508); have NB512_520 := nl hg (bk BK512); have NB520_512 := ng hg (bk BK512); have NB516_520 := nl hg (bk BK516); have NB520_516 := ng hg (bk BK516); replace BK503 := bb (bk BK503) hb; replace BK504 := bb (bk BK504) hb; replace BK508 := bb (bk BK508) hb; replace BK512 := bb (bk BK512) hb; replace BK516 := bb (bk BK516) hb; replace HB := hbb (hs_ HB) hb; clear hb hbox hg; have hnb108 := NB520_503.out; have hnc108 := NB503_520.out; have hnb109 := NB520_504.out; have hnc109 := NB504_520.out; have hnb110 := NB520_508.out; have hnc110 := NB508_520.out; have hnb111 := NB520_512.out; have hnc111 := NB512_520.out; have hnb112 := NB520_516.out; have hnc112 := NB516_520.out; obtain ⟨hcz113_0, hcz113_1, hfz113_0, hfz113_1⟩ := cz2 BK520; obtain ⟨hcz114_0, hcz114_1, hfz114_0, hfz114_1⟩ := cz2 BK516; obtain ⟨hcz115_0, hcz115_1, hfz115_0, hfz115_1⟩ := cz2 BK503; obtain ⟨hcz116_0, hcz116_1, hfz116_0, hfz116_1⟩ := cz2 BK504) | (go_at_call 22; (with_reducible refine (impl_FanHas.calls t513 t514 ji55 false _ A56.out).mono ?_); rintro e w117 ⟨rfl, hb⟩; replace BK503 := bb (bk1 BK503 NB503_520) hb; replace BK504 := bb (bk1 BK504 NB504_520) hb; replace BK508 := bb (bk1 BK508 NB508_520) hb; replace BK512 := bb (bk1 BK512 NB512_520) hb; replace BK516 := bb (bk1 BK516 NB516_520) hb; replace BK520 := bb (o := .cells #[.int .i64 t517, .int .i64 t518] 29 (0, 0)) (bkp BK520) hb; replace HB := hbb (hs_ HB) hb; clear hb))
        go_ret
        exact ⟨by first | rfl | (simp [errW_none, errW_some] <;> rfl) | (simp only [← hji55]; first | rfl | (simp [errW_none, errW_some] <;> rfl)) | (simp [*, errW_none, errW_some] <;> rfl), hs_ HB⟩
      ·replace c54 := Bool.eq_false_iff.mpr c54
       subst c54
       have H1 : (some false) = some r := by rw [if_neg (show ¬ (false = true) by decide)] at H; exact H
       clear H
       have H := H1
       clear H1
       obtain rfl := Option.some.inj H
       have hnb118 := NB503_504.out
       have hnc118 := NB504_503.out
       have hnb119 := NB503_508.out
       have hnc119 := NB508_503.out
       have hnb120 := NB503_512.out
       have hnc120 := NB512_503.out
       obtain ⟨hcz121_0, hcz121_1, hfz121_0, hfz121_1⟩ := cz2 BK503
       have hnb122 := NB504_508.out
       have hnc122 := NB508_504.out
       have hnb123 := NB504_512.out
       have hnc123 := NB512_504.out
       obtain ⟨hcz124_0, hcz124_1, hfz124_0, hfz124_1⟩ := cz2 BK504
       go_wp2_with (first | ((with_reducible refine gate_callee (f := 20) rfl ?_); refine gL 60 Try.func20 #[.agg #[.int .i64 t499, .int .i64 t500], .agg #[.int .i64 t501, .int .i64 t500]] ?_; (with_reducible refine (impl_SpotDist.calls kj5 t499 t500 t501 t500 t513 t514 true _ A51.out).mono ?_); rintro e w125 ⟨rfl, hb⟩; refine ⟨_, rfl, ?_⟩; replace BK503 := bb (bk BK503) hb; replace BK504 := bb (bk BK504) hb; replace BK508 := bb (bk BK508) hb; replace BK512 := bb (bk BK512) hb; replace HB := hbb (hs_ HB) hb; clear hb) | ((with_reducible refine gate_dst (N := 9) rfl ?_); (try (refine gate_guard (by rfl) ?_; dsimp only)); refine bE 9 #[.int .i64 0, .int .i64 0] 29 ?_; intro gb516 hg w126 hbox hb; have BK516 := Aside0.mk (hbox); have GE516 := gw hg (hs_ HB); have GW516 := GE516; have NB503_516 := nl hg (bk BK503); have NB516_503 := ng hg (bk BK503); have NB504_516 := nl hg (bk BK504); have NB516_504 := ng hg (bk BK504); have NB508_516 := nl hg (bk BK508); have NB516_508 := ng hg (bk BK508); have NB512_516 := nl hg (bk BK512); have NB516_512 := ng hg (bk BK512); replace BK503 := bb (bk BK503) hb; replace BK504 := bb (bk BK504) hb; replace BK508 := bb (bk BK508) hb; replace BK512 := bb (bk BK512) hb; replace HB := hbb (hs_ HB) hb; clear hb hbox hg; have hnb127 := NB516_503.out; have hnc127 := NB503_516.out; have hnb128 := NB516_504.out; have hnc128 := NB504_516.out; have hnb129 := NB516_508.out; have hnc129 := NB508_516.out; have hnb130 := NB516_512.out; have hnc130 := NB512_516.out; obtain ⟨hcz131_0, hcz131_1, hfz131_0, hfz131_1⟩ := cz2 BK516; obtain ⟨hcz132_0, hcz132_1, hfz132_0, hfz132_1⟩ := cz2 BK503; obtain ⟨hcz133_0, hcz133_1, hfz133_0, hfz133_1⟩ := cz2 BK504) | ((with_reducible refine gate_callee (f := 20) rfl ?_); refine gL 68 Try.func20 #[.agg #[.int .i64 t499, .int .i64 t500], .agg #[.int .i64 32400000, .int .i64 t502]] ?_; (with_reducible refine (impl_SpotDist.calls kj5 t499 t500 32400000 t502 t517 t518 false _ A52.out).mono ?_); rintro e w134 ⟨rfl, hb⟩; refine ⟨_, rfl, ?_⟩; replace BK503 := bb (bk1 BK503 NB503_516) hb; replace BK504 := bb (bk1 BK504 NB504_516) hb; replace BK508 := bb (bk1 BK508 NB508_516) hb; replace BK512 := bb (bk1 BK512 NB512_516) hb; replace BK516 := bb (o := .cells #[.int .i64 t513, .int .i64 t514] 29 (0, 0)) (bkp BK516) hb; replace HB := hbb (hs_ HB) hb; clear hb) | ((with_reducible refine gate_dst (N := 11) rfl ?_); (try (refine gate_guard (by rfl) ?_; dsimp only)); refine bE 11 #[.int .i64 0, .int .i64 0] 29 ?_; intro gb520 hg w135 hbox hb; have BK520 := Aside0.mk (hbox); have GE520 := gw hg (hs_ HB); have GW520 := GE520; have NB503_520 := nl hg (bk BK503); have NB520_503 := ng hg (bk BK503); have NB504_520 := nl hg (bk BK504); have NB520_504 := ng hg (bk BK504); have NB508_520 := nl hg (bk BK508); have NB520_508 := ng hg (bk BK508); have NB512_520 := nl hg (bk BK512); have NB520_512 := ng hg (bk BK512); have NB516_520 := nl hg (bk BK516); have NB520_516 := ng hg (bk BK516); replace BK503 := bb (bk BK503) hb; replace BK504 := bb (bk BK504) hb; replace BK508 := bb (bk BK508) hb; replace BK512 := bb (bk BK512) hb; replace BK516 := bb (bk BK516) hb; replace HB := hbb (hs_ HB) hb; clear hb hbox hg; have hnb136 := NB520_503.out; have hnc136 := NB503_520.out; have hnb137 := NB520_504.out; have hnc137 := NB504_520.out; have hnb138 := NB520_508.out; have hnc138 := NB508_520.out; have hnb139 := NB520_512.out; have hnc139 := NB512_520.out; have hnb140 := NB520_516.out; have hnc140 := NB516_520.out; obtain ⟨hcz141_0, hcz141_1, hfz141_0, hfz141_1⟩ := cz2 BK520))
       go_ret
       exact ⟨by first | rfl | (simp [errW_none, errW_some] <;> rfl) | (simp [*, errW_none, errW_some] <;> rfl), hs_ HB⟩
     ·replace c53 := Bool.eq_false_iff.mpr c53
      subst c53
      have H1 : (some false) = some r := by rw [if_neg (show ¬ (false = true) by decide)] at H; exact H
      clear H
      have H := H1
      clear H1
      obtain rfl := Option.some.inj H
      have hnb142 := NB503_504.out
      have hnc142 := NB504_503.out
      have hnb143 := NB503_508.out
      have hnc143 := NB508_503.out
      have hnb144 := NB503_512.out
      have hnc144 := NB512_503.out
      obtain ⟨hcz145_0, hcz145_1, hfz145_0, hfz145_1⟩ := cz2 BK503
      have hnb146 := NB504_508.out
      have hnc146 := NB508_504.out
      have hnb147 := NB504_512.out
      have hnc147 := NB512_504.out
      obtain ⟨hcz148_0, hcz148_1, hfz148_0, hfz148_1⟩ := cz2 BK504
      go_wp2_with (first | ((with_reducible refine gate_callee (f := 20) rfl ?_); refine gL 60 Try.func20 #[.agg #[.int .i64 t499, .int .i64 t500], .agg #[.int .i64 t501, .int .i64 t500]] ?_; (with_reducible refine (impl_SpotDist.calls kj5 t499 t500 t501 t500 t513 t514 false _ A51.out).mono ?_); rintro e w149 ⟨rfl, hb⟩; refine ⟨_, rfl, ?_⟩; replace BK503 := bb (bk BK503) hb; replace BK504 := bb (bk BK504) hb; replace BK508 := bb (bk BK508) hb; replace BK512 := bb (bk BK512) hb; replace HB := hbb (hs_ HB) hb; clear hb) | ((with_reducible refine gate_dst (N := 9) rfl ?_); (try (refine gate_guard (by rfl) ?_; dsimp only)); refine bE 9 #[.int .i64 0, .int .i64 0] 29 ?_; intro gb516 hg w150 hbox hb; have BK516 := Aside0.mk (hbox); have GE516 := gw hg (hs_ HB); have GW516 := GE516; have NB503_516 := nl hg (bk BK503); have NB516_503 := ng hg (bk BK503); have NB504_516 := nl hg (bk BK504); have NB516_504 := ng hg (bk BK504); have NB508_516 := nl hg (bk BK508); have NB516_508 := ng hg (bk BK508); have NB512_516 := nl hg (bk BK512); have NB516_512 := ng hg (bk BK512); replace BK503 := bb (bk BK503) hb; replace BK504 := bb (bk BK504) hb; replace BK508 := bb (bk BK508) hb; replace BK512 := bb (bk BK512) hb; replace HB := hbb (hs_ HB) hb; clear hb hbox hg; have hnb151 := NB516_503.out; have hnc151 := NB503_516.out; have hnb152 := NB516_504.out; have hnc152 := NB504_516.out; have hnb153 := NB516_508.out; have hnc153 := NB508_516.out; have hnb154 := NB516_512.out; have hnc154 := NB512_516.out; obtain ⟨hcz155_0, hcz155_1, hfz155_0, hfz155_1⟩ := cz2 BK516; obtain ⟨hcz156_0, hcz156_1, hfz156_0, hfz156_1⟩ := cz2 BK503; obtain ⟨hcz157_0, hcz157_1, hfz157_0, hfz157_1⟩ := cz2 BK504) | ((with_reducible refine gate_callee (f := 20) rfl ?_); refine gL 68 Try.func20 #[.agg #[.int .i64 t499, .int .i64 t500], .agg #[.int .i64 32400000, .int .i64 t502]] ?_; (with_reducible refine (impl_SpotDist.calls kj5 t499 t500 32400000 t502 t517 t518 t519 _ A52.out).mono ?_); rintro e w158 ⟨rfl, hb⟩; refine ⟨_, rfl, ?_⟩; replace BK503 := bb (bk1 BK503 NB503_516) hb; replace BK504 := bb (bk1 BK504 NB504_516) hb; replace BK508 := bb (bk1 BK508 NB508_516) hb; replace BK512 := bb (bk1 BK512 NB512_516) hb; replace BK516 := bb (o := .cells #[.int .i64 t513, .int .i64 t514] 29 (0, 0)) (bkp BK516) hb; replace HB := hbb (hs_ HB) hb; clear hb) | ((with_reducible refine gate_dst (N := 11) rfl ?_); (try (refine gate_guard (by rfl) ?_; dsimp only)); refine bE 11 #[.int .i64 0, .int .i64 0] 29 ?_; intro gb520 hg w159 hbox hb; have BK520 := Aside0.mk (hbox); have GE520 := gw hg (hs_ HB); have GW520 := GE520; have NB503_520 := nl hg (bk BK503); have NB520_503 := ng hg (bk BK503); have NB504_520 := nl hg (bk BK504); have NB520_504 := ng hg (bk BK504); have NB508_520 := nl hg (bk BK508); have NB520_508 := ng hg (bk BK508); have NB512_520 := nl hg (bk BK512); have NB520_512 := ng hg (bk BK512); have NB516_520 := nl hg (bk BK516); have NB520_516 := ng hg (bk BK516); replace BK503 := bb (bk BK503) hb; replace BK504 := bb (bk BK504) hb; replace BK508 := bb (bk BK508) hb; replace BK512 := bb (bk BK512) hb; replace BK516 := bb (bk BK516) hb; replace HB := hbb (hs_ HB) hb; clear hb hbox hg; have hnb160 := NB520_503.out; have hnc160 := NB503_520.out; have hnb161 := NB520_504.out; have hnc161 := NB504_520.out; have hnb162 := NB520_508.out; have hnc162 := NB508_520.out; have hnb163 := NB520_512.out; have hnc163 := NB512_520.out; have hnb164 := NB520_516.out; have hnc164 := NB516_520.out; obtain ⟨hcz165_0, hcz165_1, hfz165_0, hfz165_1⟩ := cz2 BK520))
      go_ret
      exact ⟨by first | rfl | (simp [errW_none, errW_some] <;> rfl) | (simp [*, errW_none, errW_some] <;> rfl), hs_ HB⟩


theorem drawSpotDist_tells {l : List Int} (hl : Bytes l) {k : Nat} (hk : 20 ≤ k) : ∃ pu pa qu qa, spec_DrawSpotDist.f k l = some (pu, pa, qu, qa) := by
 unfold spec_DrawSpotDist.f
 obtain ⟨b, h1, h2, h3⟩ := open_tells hl
 rw [h1]; simp only [Option.bind_some]
 obtain ⟨pu, pa, qu, qa, p, q1, q2, q3⟩ := spots_tells h2 h3 (show (0 : Int) ≤ 0 by omega) (by omega) hk
 rw [q1]; simp only [Option.bind_some]
 exact ⟨_, _, _, _, rfl⟩
theorem distR_in {pu pa qu qa : Int} (h : (Up pu ∧ Ar pa) ∧ (Up qu ∧ Ar qa)) : distR pu pa qu qa = ((distOf (squareM pu pa qu qa)).1, (distOf (squareM pu pa qu qa)).2, true) := if_pos h
theorem distR_out {pu pa qu qa : Int} (h : ¬ ((Up pu ∧ Ar pa) ∧ (Up qu ∧ Ar qa))) : distR pu pa qu qa = (0, 0, false) := if_neg h
theorem FnSpotDistUp_pure {l0 : List Int} (hl : Bytes l0) {k : Nat} (hk : 300 ≤ k) : laws_FnSpotDistUp.f (k + 1) l0 = some true := by
 unfold laws_FnSpotDistUp.f
 by_cases h : (l0.length : Int) > 1048576
 ·rw [if_pos h]
 rw [if_neg h]
 obtain ⟨pu, pa, qu, qa, hd⟩ := drawSpotDist_tells hl (k := k + 1) (by omega)
 obtain ⟨i1, i2⟩ := SpotDist_is pu pa qu qa (k := k + 1) (by omega)
 rw [hd]; simp only [Option.bind_some]
 rw [i1, i2]
 by_cases hin : (Up pu ∧ Ar pa) ∧ (Up qu ∧ Ar qa)
 ·rw [distR_in hin]
  simp only [Option.bind_some, bne_self_eq_false, beq_self_eq_true, Bool.not_true, Bool.not_false, Bool.or_false, Bool.or_self, Bool.and_self, Bool.false_eq_true, if_false, if_true]
  rw [laws_FnSpotDistUp.j0]
  simp only [Bool.false_eq_true, if_false]
  have us := (square_parts hin.1.1 hin.2.1 pa qa).2.2
  obtain ⟨d1, d2, d3⟩ := dist_ends us
  have p1 := hin.1.1.1
  have p2 := hin.1.1.2
  have q1 := hin.2.1.1
  have q2 := hin.2.1.2
  have hq : Up 32400000 := ⟨by omega, by omega⟩
  rw [(SpotDist_is pu pa qu pa (by omega)).1, (SpotDist_is pu pa 32400000 qa (by omega)).1, distR_in ⟨hin.1, hin.2.1, hin.1.2⟩, distR_in ⟨hin.1, hq, hin.2.2⟩, square_up, square_pole pa 32400000 qa (.inr (.inl rfl))]
  simp only [Option.bind_some, if_true, mx_is]
  rw [w64 (x := pu - qu) (by omega) (by omega), w64 (x := qu - pu) (by omega) (by omega), w64 (x := 32400000 - pu) (by omega) (by omega)]
  have a := dist_ends (sq_half (qu - pu)).2
  have b := dist_ends (sq_half (32400000 - pu)).2
  rw [FanHas_is (by omega) a.2.1 (by omega), FanHas_is (by omega) b.2.1 (by omega)]
  have h1 : (distOf (sqP (qu - pu))).1 ≤ max (pu - qu) (qu - pu) ∧ max (pu - qu) (qu - pu) ≤ (distOf (sqP (qu - pu))).2 := by
   rcases Int.le_total pu qu with g | g
   ·have m : max (pu - qu) (qu - pu) = qu - pu := by omega
    rw [m]; exact dist_has (by omega) (by omega)
   ·have m : max (pu - qu) (qu - pu) = pu - qu := by omega
    have e : qu - pu = -(pu - qu) := by omega
    rw [m, e, sq_neg]; exact dist_has (by omega) (by omega)
  have h2 := dist_has (d := 32400000 - pu) (by omega) (by omega)
  simp only [h1, h2, and_self, decide_true, Option.bind_some, if_true]
 ·rw [distR_out hin]
  simp [laws_FnSpotDistUp.j0]
theorem FnSpotDistUp_true (A0 : Option Addr) (c0 : Nat) (l0 : List Int) (w : World) (hr0 : Kd.C (Kd.int .u8) w A0 l0.length l0) (hc0 : l0.length ≤ c0) (hw0 : ∀ x ∈ l0, (Lit.int .u8 x).wf = true) :
  Calls Try.prog 12 #[.slice A0 l0.length c0] w fun e w' => e = .returned (.bool true) ∧ Below w.heap.size w w' :=
 laws_FnSpotDistUp.calls 301 A0 c0 l0 true w hr0 hc0 (FnSpotDistUp_pure (bytes_of hw0) (by omega))

end Go.Proofs.Ytmcippkpgmehdaa.M
