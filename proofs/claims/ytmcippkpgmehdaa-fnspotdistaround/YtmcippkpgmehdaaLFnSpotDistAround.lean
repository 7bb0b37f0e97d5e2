import Derived.Test.YtmcippkpgmehdaaP7
import Derived.Test.YtmcippkpgmehdaaP8
import Derived.Test.YtmcippkpgmehdaaDd
import Derived.Test.YtmcippkpgmehdaaMe
namespace Go.Proofs.Ytmcippkpgmehdaa.M
open Go.RowKit Go.Proofs.YtmcippkpgmehdaaW.PrintWords Go.Proofs.YtmcippkpgmehdaaW.PrintLast Go.Proofs.YtmcippkpgmehdaaW.PrintMore
attribute [local go_sem] max2_int min2_int max_two min_two max_three min_three max_four min_four
attribute [local go_sem high] eqA42 eqA29 eqA24
attribute [local go_sem] fld42_0 fld42_1 fld29_0 fld29_1 fld24_0 fld24_1 fld38_0 fld38_1 fld88_0 fld88_1 fld88_2 fld88_3 fld88_4
set_option linter.unusedVariables false
set_option linter.unusedSimpArgs false
/-! ### laws_FnSpotDistAround: function 15 -/
def laws_FnSpotDistAround.j0 : Nat → Bool → Bool → Bool → Int → Int → Int → Int → Int → Int → Int → Int → Option (Bool)
 | 0, _, _, _, _, _, _, _, _, _, _, _ => none
 | k + 1, x6, x8, x44, x508000, x508001, x509000, x509001, x513000, x513001, x517000, x517001 => if x44 = true then (if (x8 == x6) = true then (some (x517000 == x513000 && (x517001 == x513001))) else (some false)) else ((impl_SpotDist.f k 0 x508001 0 x509001).bind fun bt517 => ((impl_AngDiff.f k x508001 x509001).bind fun bt521 => (if bt517.2.2 = true then ((impl_FanHas.f bt517.1 bt517.2.1 (mx bt521.1 (wrap64 (-bt521.1)))).bind fun t523 => (some t523)) else (some false))))
def laws_FnSpotDistAround.f (k : Nat) (l0 : List Int) : Option (Bool) := if (l0.length : Int) > 1048576 then (some true) else ((spec_DrawSpotDist.f k l0).bind fun bt503 => ((spec_SpotDist.f k bt503.1 bt503.2.1 bt503.2.2.1 bt503.2.2.2).bind fun bt509 => ((impl_SpotDist.f k bt503.1 bt503.2.1 bt503.2.2.1 bt503.2.2.2).bind fun bt513 => (if (bt513.2.2 != bt509.2.2) = true then (laws_FnSpotDistAround.j0 k bt509.2.2 bt513.2.2 true bt503.1 bt503.2.1 bt503.2.2.1 bt503.2.2.2 bt509.1 bt509.2.1 bt513.1 bt513.2.1) else (if (!(bt513.1 == bt509.1) || (!(bt513.2.1 == bt509.2.1))) = true then (laws_FnSpotDistAround.j0 k bt509.2.2 bt513.2.2 true bt503.1 bt503.2.1 bt503.2.2.1 bt503.2.2.2 bt509.1 bt509.2.1 bt513.1 bt513.2.1) else (laws_FnSpotDistAround.j0 k bt509.2.2 bt513.2.2 (!bt513.2.2) bt503.1 bt503.2.1 bt503.2.2.1 bt503.2.2.2 bt509.1 bt509.2.1 bt513.1 bt513.2.1))))))
set_option maxHeartbeats 8000000 in
set_option maxRecDepth 100000 in
theorem laws_FnSpotDistAround.calls (k : Nat) (A0 : Option Addr) (c0 : Nat) (l0 : List Int) (r : Bool) (w : World) (hr0 : Kd.C (Kd.int .u8) w A0 l0.length l0) (hc0 : l0.length ≤ c0) (h : laws_FnSpotDistAround.f k l0 = some r) :
  Calls Try.prog 15 #[.slice A0 l0.length c0] w fun e w' => e = .returned (.bool r) ∧ Below w.heap.size w w' := by
 have hu24 := Try.underlying24
 have hu29 := Try.underlying29
 have HR0 := Aside0.mk hr0
 have HC0 := Aside0.mk hc0
 clear hr0 hc0
 have HB := Aside0.mk (Below.refl w.heap.size w)
 have H : (if (l0.length : Int) > 1048576 then (some true) else ((spec_DrawSpotDist.f k l0).bind fun bt503 => ((spec_SpotDist.f k bt503.1 bt503.2.1 bt503.2.2.1 bt503.2.2.2).bind fun bt509 => ((impl_SpotDist.f k bt503.1 bt503.2.1 bt503.2.2.1 bt503.2.2.2).bind fun bt513 => (if (bt513.2.2 != bt509.2.2) = true then (laws_FnSpotDistAround.j0 k bt509.2.2 bt513.2.2 true bt503.1 bt503.2.1 bt503.2.2.1 bt503.2.2.2 bt509.1 bt509.2.1 bt513.1 bt513.2.1) else (if (!(bt513.1 == bt509.1) || (!(bt513.2.1 == bt509.2.1))) = true then (laws_FnSpotDistAround.j0 k bt509.2.2 bt513.2.2 true bt503.1 bt503.2.1 bt503.2.2.1 bt503.2.2.2 bt509.1 bt509.2.1 bt513.1 bt513.2.1) else (laws_FnSpotDistAround.j0 k bt509.2.2 bt513.2.2 (!bt513.2.2) bt503.1 bt503.2.1 bt503.2.2.1 bt503.2.2.2 bt509.1 bt509.2.1 bt513.1 bt513.2.1))))))) = some r := h
 clear h
 by_cases c2 : (l0.length : Int) > 1048576
 ·rw [if_pos c2] at H
  have c2b0 : decide (1048576 < (l0.length : Int)) = true := decide_eq_true c2
  have c2b1 : decide (1048576 < l0.length) = true := decide_eq_true (by omega)
  clear c2
  obtain rfl := Option.some.inj H
  go_enter Try.func15, Try.ntmps15
  go_wp2
  go_ret
  exact ⟨by first | rfl | (simp [errW_none, errW_some] <;> rfl) | (simp [*, errW_none, errW_some] <;> rfl), h0_ HB⟩
 ·rw [if_neg c2] at H
  have c2b0 : decide (1048576 < (l0.length : Int)) = false := decide_eq_false c2
  have c2b1 : decide (1048576 < l0.length) = false := decide_eq_false (by omega)
  clear c2
  replace H := Option.bind_eq_some_iff.mp H
  obtain ⟨⟨t503, t504, t505, t506⟩, A30, H⟩ := H
  replace H : ((spec_SpotDist.f k t503 t504 t505 t506).bind fun bt509 => ((impl_SpotDist.f k t503 t504 t505 t506).bind fun bt513 => (if (bt513.2.2 != bt509.2.2) = true then (laws_FnSpotDistAround.j0 k bt509.2.2 bt513.2.2 true t503 t504 t505 t506 bt509.1 bt509.2.1 bt513.1 bt513.2.1) else (if (!(bt513.1 == bt509.1) || (!(bt513.2.1 == bt509.2.1))) = true then (laws_FnSpotDistAround.j0 k bt509.2.2 bt513.2.2 true t503 t504 t505 t506 bt509.1 bt509.2.1 bt513.1 bt513.2.1) else (laws_FnSpotDistAround.j0 k bt509.2.2 bt513.2.2 (!bt513.2.2) t503 t504 t505 t506 bt509.1 bt509.2.1 bt513.1 bt513.2.1))))) = some r := H
  have A3 := Aside0.mk A30
  clear A30
  replace H := Option.bind_eq_some_iff.mp H
  obtain ⟨⟨t509, t510, t511⟩, A40, H⟩ := H
  replace H : ((impl_SpotDist.f k t503 t504 t505 t506).bind fun bt513 => (if (bt513.2.2 != t511) = true then (laws_FnSpotDistAround.j0 k t511 bt513.2.2 true t503 t504 t505 t506 t509 t510 bt513.1 bt513.2.1) else (if (!(bt513.1 == t509) || (!(bt513.2.1 == t510))) = true then (laws_FnSpotDistAround.j0 k t511 bt513.2.2 true t503 t504 t505 t506 t509 t510 bt513.1 bt513.2.1) else (laws_FnSpotDistAround.j0 k t511 bt513.2.2 (!bt513.2.2) t503 t504 t505 t506 t509 t510 bt513.1 bt513.2.1)))) = some r := H
  have A4 := Aside0.mk A40
  clear A40
  replace H := Option.bind_eq_some_iff.mp H
  obtain ⟨⟨t513, t514, t515⟩, A50, H⟩ := H
  replace H : (if (t515 != t511) = true then (laws_FnSpotDistAround.j0 k t511 t515 true t503 t504 t505 t506 t509 t510 t513 t514) else (if (!(t513 == t509) || (!(t514 == t510))) = true then (laws_FnSpotDistAround.j0 k t511 t515 true t503 t504 t505 t506 t509 t510 t513 t514) else (laws_FnSpotDistAround.j0 k t511 t515 (!t515) t503 t504 t505 t506 t509 t510 t513 t514))) = some r := H
  have A5 := Aside0.mk A50
  clear A50
  have HC6 := Aside0.mk H
  clear H
  go_enter Try.func15, Try.ntmps15
  go_upto_region 6 with (first | ((with_reducible refine gate_callee (f := 35) rfl ?_); refine gL 18 Try.func35 #[.slice A0 l0.length c0] ?_; (with_reducible refine (spec_DrawSpotDist.calls k _ _ l0 t503 t504 t505 t506 _ ?side1 ?side2 A3.out).mono ?_); (case side1 => repeat (first | exact HR0.out | (with_reducible refine Kd.C_alloc ?_ _) | (with_reducible refine Kd.C_drewN ?_ _) | (with_reducible refine Kd.C_drew ?_))); (case side2 => exact HC0.out); rintro e w7 ⟨rfl, hb⟩; refine ⟨_, rfl, ?_⟩; replace HB := hbb (h0_ HB) hb; clear hb) | ((with_reducible refine gate_dst (N := 3) rfl ?_); (try (refine gate_guard (by rfl) ?_; dsimp only)); refine bE 3 #[.int .i64 0, .int .i64 0] 24 ?_; intro gb507 hg w8 hbox hb; have BK507 := Aside0.mk (hbox); have GE507 := gw hg (h0_ HB); have GW507 := GE507; replace HB := hbb (h0_ HB) hb; clear hb hbox hg) | ((with_reducible refine gate_dst (N := 4) rfl ?_); (try (refine gate_guard (by rfl) ?_; dsimp only)); refine bE 4 #[.int .i64 0, .int .i64 0] 24 ?_; intro gb508 hg w9 hbox hb; have BK508 := Aside0.mk (hbox); have GE508 := gw hg (hs_ HB); have GW508 := GE508; have NB507_508 := nl hg (bk BK507); have NB508_507 := ng hg (bk BK507); replace BK507 := bb (bk BK507) hb; replace HB := hbb (hs_ HB) hb; clear hb hbox hg; have hnb10 := NB507_508.out; have hnc10 := NB508_507.out; obtain ⟨hcz11_0, hcz11_1, hfz11_0, hfz11_1⟩ := cz2 BK507; obtain ⟨hcz12_0, hcz12_1, hfz12_0, hfz12_1⟩ := cz2 BK508) | ((with_reducible refine gate_callee (f := 36) rfl ?_); refine gL 24 Try.func36 #[.agg #[.int .i64 t503, .int .i64 t504], .agg #[.int .i64 t505, .int .i64 t506]] ?_; (with_reducible refine (spec_SpotDist.calls k t503 t504 t505 t506 t509 t510 t511 _ A4.out).mono ?_); rintro e w13 ⟨rfl, hb⟩; refine ⟨_, rfl, ?_⟩; replace BK507 := bb (o := .cells #[.int .i64 t503, .int .i64 t504] 24 (0, 0)) (bkp BK507) hb; replace BK508 := bb (o := .cells #[.int .i64 t505, .int .i64 t506] 24 (0, 0)) (bkp BK508) hb; replace HB := hbb (hs_ HB) hb; clear hb) | ((with_reducible refine gate_dst (N := 5) rfl ?_); (try (refine gate_guard (by rfl) ?_; dsimp only)); refine bE 5 #[.int .i64 0, .int .i64 0] 29 ?_; intro gb512 hg w14 hbox hb; have BK512 := Aside0.mk (hbox); have GE512 := gw hg (hs_ HB); have GW512 := GE512; have NB507_512 := nl hg (bk BK507); have NB512_507 := ng hg (bk BK507); have NB508_512 := nl hg (bk BK508); have NB512_508 := ng hg (bk BK508); replace BK507 := bb (bk BK507) hb; replace BK508 := bb (bk BK508) hb; replace HB := hbb (hs_ HB) hb; clear hb hbox hg; have hnb15 := NB512_507.out; have hnc15 := NB507_512.out; have hnb16 := NB512_508.out; have hnc16 := NB508_512.out; obtain ⟨hcz17_0, hcz17_1, hfz17_0, hfz17_1⟩ := cz2 BK512; obtain ⟨hcz18_0, hcz18_1, hfz18_0, hfz18_1⟩ := cz2 BK507; obtain ⟨hcz19_0, hcz19_1, hfz19_0, hfz19_1⟩ := cz2 BK508) | ((with_reducible refine gate_callee (f := 20) rfl ?_); refine gL 30 Try.func20 #[.agg #[.int .i64 t503, .int .i64 t504], .agg #[.int .i64 t505, .int .i64 t506]] ?_; (with_reducible refine (impl_SpotDist.calls k t503 t504 t505 t506 t513 t514 t515 _ A5.out).mono ?_); rintro e w20 ⟨rfl, hb⟩; refine ⟨_, rfl, ?_⟩; replace BK507 := bb (bk1 BK507 NB507_512) hb; replace BK508 := bb (bk1 BK508 NB508_512) hb; replace BK512 := bb (o := .cells #[.int .i64 t509, .int .i64 t510] 29 (0, 0)) (bkp BK512) hb; replace HB := hbb (hs_ HB) hb; clear hb) | ((with_reducible refine gate_dst (N := 7) rfl ?_); (try (refine gate_guard (by rfl) ?_; dsimp only)); refine bE 7 #[.int .i64 0, .int .i64 0] 29 ?_; intro gb516 hg w21 hbox hb; have BK516 := Aside0.mk (hbox); have GE516 := gw hg (hs_ HB); have GW516 := GE516; have NB507_516 := nl hg (bk BK507); have NB516_507 := ng hg (bk BK507); have NB508_516 := nl hg (bk BK508); have NB516_508 := ng hg (bk BK508); have NB512_516 := nl hg (bk BK512); have NB516_512 := ng hg (bk BK512); replace BK507 := bb (bk BK507) hb; replace BK508 := bb (bk BK508) hb; replace BK512 := bb (bk BK512) hb; replace HB := hbb (hs_ HB) hb; clear hb hbox hg; have hnb22 := NB516_507.out; have hnc22 := NB507_516.out; have hnb23 := NB516_508.out; have hnc23 := NB508_516.out; have hnb24 := NB516_512.out; have hnc24 := NB512_516.out; obtain ⟨hcz25_0, hcz25_1, hfz25_0, hfz25_1⟩ := cz2 BK516))
  (try simp only [Act.put, List.setIfInBounds_toArray, List.set_cons_zero, List.set_cons_succ])
  go_cut [44] (fun v44 wc => ∃ (kq : Nat) (x44_5 : Bool), v44 = .bool x44_5 ∧ Aside0 (laws_FnSpotDistAround.j0 kq t511 t515 x44_5 t503 t504 t505 t506 t509 t510 t513 t514 = some r) ∧ Aside0 (kq ≤ k) ∧ Aside0 (wc.heap[gb507]? = some (.cells #[.int .i64 t503, .int .i64 t504] 24 (0, 0))) ∧ Aside0 (wc.heap[gb508]? = some (.cells #[.int .i64 t505, .int .i64 t506] 24 (0, 0))) ∧ Aside0 (wc.heap[gb512]? = some (.cells #[.int .i64 t509, .int .i64 t510] 29 (0, 0))) ∧ Aside0 (wc.heap[gb516]? = some (.cells #[.int .i64 t513, .int .i64 t514] 29 (0, 0))) ∧ Aside0 (Below w.heap.size w wc))
  case first =>
   have H := HC6.out
   clear HC6
   by_cases c26 : (t515 != t511) = true
   ·rw [if_pos c26] at H
    have c26b0 : (t515 != t511) = true := c26
    (try (have c26b1 : decide (t515 = t511) = false := by simpa using c26))
    (try (have c26b2 : (t515 == t511) = false := by simpa using c26))
    (try (have c26b3 : ¬ (t515 = t511) := by simpa using c26))
    clear c26
    (first | rw [c26b0] | (simp only [i64_w, i32_w]; rw [c26b0]) | skip)
    have H' := Aside0.mk H
    clear H
    go_wp2
    go_meet
    case rel => exact ⟨_, (true), (by first | rfl | (simp; done) | (simp [*]; done)), H', ⟨by first | omega | exact Nat.le_refl _⟩, ⟨bk1 BK507 NB507_516⟩, ⟨bk1 BK508 NB508_516⟩, ⟨bk1 BK512 NB512_516⟩, ⟨bkp BK516⟩, ⟨hs_ HB⟩⟩
   ·rw [if_neg c26] at H
    have c26b0 : (t515 != t511) = false := by simpa using c26
    (try (have c26b1 : decide (t515 = t511) = true := by simpa using c26))
    (try (have c26b2 : (t515 == t511) = true := by simpa using c26))
    clear c26
    (first | rw [c26b0] | (simp only [i64_w, i32_w]; rw [c26b0]) | skip)
    by_cases c27 : (!(t513 == t509) || (!(t514 == t510))) = true
    ·rw [if_pos c27] at H
     have c27b0 : (!(t513 == t509) || (!(t514 == t510))) = true := c27
     clear c27
     have H' := Aside0.mk H
     clear H
     have hnb28 := NB516_507.out
     have hnc28 := NB507_516.out
     have hnb29 := NB516_508.out
     have hnc29 := NB508_516.out
     have hnb30 := NB516_512.out
     have hnc30 := NB512_516.out
     obtain ⟨hcz31_0, hcz31_1, hfz31_0, hfz31_1⟩ := cz2 BK516
     have hnb32 := NB512_507.out
     have hnc32 := NB507_512.out
     have hnb33 := NB512_508.out
     have hnc33 := NB508_512.out
     obtain ⟨hcz34_0, hcz34_1, hfz34_0, hfz34_1⟩ := cz2 BK512
     go_wp2
     go_meet
     case rel => exact ⟨_, (true), (by first | rfl | (simp; done) | (simp [*]; done)), H', ⟨by first | omega | exact Nat.le_refl _⟩, ⟨bk1 BK507 NB507_516⟩, ⟨bk1 BK508 NB508_516⟩, ⟨bk1 BK512 NB512_516⟩, ⟨bkp BK516⟩, ⟨hs_ HB⟩⟩
    ·rw [if_neg c27] at H
     have c27b0 : (!(t513 == t509) || (!(t514 == t510))) = false := by simpa using c27
     clear c27
     have H' := Aside0.mk H
     clear H
     have hnb35 := NB516_507.out
     have hnc35 := NB507_516.out
     have hnb36 := NB516_508.out
     have hnc36 := NB508_516.out
     have hnb37 := NB516_512.out
     have hnc37 := NB512_516.out
     obtain ⟨hcz38_0, hcz38_1, hfz38_0, hfz38_1⟩ := cz2 BK516
     have hnb39 := NB512_507.out
     have hnc39 := NB507_512.out
     have hnb40 := NB512_508.out
     have hnc40 := NB508_512.out
     obtain ⟨hcz41_0, hcz41_1, hfz41_0, hfz41_1⟩ := cz2 BK512
     go_wp2
     go_meet
     case rel => exact ⟨_, (!t515), (by first | rfl | (simp; done) | (simp [*]; done)), H', ⟨by first | omega | exact Nat.le_refl _⟩, ⟨bk1 BK507 NB507_516⟩, ⟨bk1 BK508 NB508_516⟩, ⟨bk1 BK512 NB512_516⟩, ⟨bkp BK516⟩, ⟨hs_ HB⟩⟩
  case rest =>
   clear HC6
   try clear c1
   try clear c2
   try clear c2b0
   try clear c2b1
   try clear p2
   try clear c3
   try clear c4
   try clear c10
   try clear c15
   try clear c16
   try clear c20
   try clear c22
   try clear c23
   try clear c24
   try clear c26
   try clear c26b0
   try clear c26b1
   try clear c26b2
   try clear c27
   try clear c27b0
   try clear c28
   try clear c29
   try clear c30
   try clear c32
   try clear c33
   try clear c35
   try clear c36
   try clear c37
   try clear c39
   try clear c40
   try clear hcz11_0
   try clear hcz11_1
   try clear hcz12_0
   try clear hcz12_1
   try clear hcz17_0
   try clear hcz17_1
   try clear hcz18_0
   try clear hcz18_1
   try clear hcz19_0
   try clear hcz19_1
   try clear hcz25_0
   try clear hcz25_1
   try clear hcz31_0
   try clear hcz31_1
   try clear hcz34_0
   try clear hcz34_1
   try clear hcz38_0
   try clear hcz38_1
   try clear hcz41_0
   try clear hcz41_1
   try clear hfz11_0
   try clear hfz11_1
   try clear hfz12_0
   try clear hfz12_1
   try clear hfz17_0
   try clear hfz17_1
   try clear hfz18_0
   try clear hfz18_1
   try clear hfz19_0
   try clear hfz19_1
   try clear hfz25_0
   try clear hfz25_1
   try clear hfz31_0
   try clear hfz31_1
   try clear hfz34_0
   try clear hfz34_1
   try clear hfz38_0
   try clear hfz38_1
   try clear hfz41_0
   try clear hfz41_1
   obtain ⟨kq, x44_5, rfl, HA, HJ5, BK507, BK508, BK512, BK516, HB⟩ := hcut
   cases kq with
   | zero => exact absurd HA.out (by simp [laws_FnSpotDistAround.j0])
   | succ kj5 =>
    have H := HA.out
    clear HA
    simp only [laws_FnSpotDistAround.j0] at H
    by_cases c42 : x44_5 = true
    ·subst c42
     have H1 : (if (t515 == t511) = true then (some (t513 == t509 && (t514 == t510))) else (some false)) = some r := by rw [if_pos rfl] at H; exact H
     clear H
     have H := H1
     clear H1
     by_cases c43 : (t515 == t511) = true
     ·rw [if_pos c43] at H
      have c43b0 : (t515 == t511) = true := c43
      (try (have c43b1 : decide (t515 = t511) = true := by simpa using c43))
      (try (have c43b2 : (t515 == t511) = true := by simpa using c43))
      clear c43
      obtain rfl := Option.some.inj H
      have hnb44 := NB516_507.out
      have hnc44 := NB507_516.out
      have hnb45 := NB516_508.out
      have hnc45 := NB508_516.out
      have hnb46 := NB516_512.out
      have hnc46 := NB512_516.out
      obtain ⟨hcz47_0, hcz47_1, hfz47_0, hfz47_1⟩ := cz2 BK516
      have hnb48 := NB512_507.out
      have hnc48 := NB507_512.out
      have hnb49 := NB512_508.out
      have hnc49 := NB508_512.out
      obtain ⟨hcz50_0, hcz50_1, hfz50_0, hfz50_1⟩ := cz2 BK512
      go_wp2
      go_ret
      exact ⟨by first | rfl | (simp [errW_none, errW_some] <;> rfl) | (simp [*, errW_none, errW_some] <;> rfl), hs_ HB⟩
     ·rw [if_neg c43] at H
      have c43b0 : (t515 == t511) = false := by simpa using c43
      (try (have c43b1 : decide (t515 = t511) = false := by simpa using c43))
      (try (have c43b2 : (t515 == t511) = false := by simpa using c43))
      (try (have c43b3 : ¬ (t515 = t511) := by simpa using c43))
      clear c43
      obtain rfl := Option.some.inj H
      go_wp2
      go_ret
      exact ⟨by first | rfl | (simp [errW_none, errW_some] <;> rfl) | (simp [*, errW_none, errW_some] <;> rfl), hs_ HB⟩
    ·replace c42 := Bool.eq_false_iff.mpr c42
     subst c42
     have H1 : ((impl_SpotDist.f kj5 0 t504 0 t506).bind fun bt517 => ((impl_AngDiff.f kj5 t504 t506).bind fun bt521 => (if bt517.2.2 = true then ((impl_FanHas.f bt517.1 bt517.2.1 (mx bt521.1 (wrap64 (-bt521.1)))).bind fun t523 => (some t523)) else (some false)))) = some r := by rw [if_neg (show ¬ (false = true) by decide)] at H; exact H
     clear H
     have H := H1
     clear H1
     replace H := Option.bind_eq_some_iff.mp H
     obtain ⟨⟨t517, t518, t519⟩, A510, H⟩ := H
     replace H : ((impl_AngDiff.f kj5 t504 t506).bind fun bt521 => (if t519 = true then ((impl_FanHas.f t517 t518 (mx bt521.1 (wrap64 (-bt521.1)))).bind fun t523 => (some t523)) else (some false))) = some r := H
     have A51 := Aside0.mk A510
     clear A510
     replace H := Option.bind_eq_some_iff.mp H
     obtain ⟨⟨t521, t522⟩, A520, H⟩ := H
     replace H : (if t519 = true then ((impl_FanHas.f t517 t518 (mx t521 (wrap64 (-t521)))).bind fun t523 => (some t523)) else (some false)) = some r := H
     have A52 := Aside0.mk A520
     clear A520
     by_cases c53 : t519 = true
     ·subst c53
      have H1 : ((impl_FanHas.f t517 t518 (mx t521 (wrap64 (-t521)))).bind fun t523 => (some t523)) = some r := by rw [if_pos rfl] at H; exact H
      clear H
      have H := H1
      clear H1
      obtain ⟨ji54, hji54⟩ : ∃ j_ : Int, (mx t521 (wrap64 (-t521))) = j_ := ⟨_, rfl⟩
      replace H : ((impl_FanHas.f t517 t518 (ji54)).bind fun t523 => (some t523)) = some r := by first | (rw [hji54] at H; exact H) | (simp only [hji54] at H ⊢; exact H)
      (try rw [hji54] at A51)
      (try rw [hji54] at A52)
      have hji54_ : (if t521 < (wrap64 (-t521)) then (wrap64 (-t521)) else t521) = ji54 := hji54
      replace H := Option.bind_eq_some_iff.mp H
      obtain ⟨t523, A550, H⟩ := H
      replace H : (some t523) = some r := H
      have A55 := Aside0.mk A550
      clear A550
      obtain rfl := Option.some.inj H
      have hnb56 := NB507_508.out
      have hnc56 := NB508_507.out
      have hnb57 := NB507_512.out
      have hnc57 := NB512_507.out
      have hnb58 := NB507_516.out
      have hnc58 := NB516_507.out
      obtain ⟨hcz59_0, hcz59_1, hfz59_0, hfz59_1⟩ := cz2 BK507
      have hnb60 := NB508_512.out
      have hnc60 := NB512_508.out
      have hnb61 := NB508_516.out
      have hnc61 := NB516_508.out
      obtain ⟨hcz62_0, hcz62_1, hfz62_0, hfz62_1⟩ := cz2 BK508
      go_wp2_with (first | ((with_reducible refine gate_callee (f := 20) rfl ?_); refine gL 60 Try.func20 #[.agg #[.int .i64 0, .int .i64 t504], .agg #[.int .i64 0, .int .i64 t506]] ?_; (with_reducible refine (impl_SpotDist.calls kj5 0 t504 0 t506 t517 t518 true _ A51.out).mono ?_); rintro e w63 ⟨rfl, hb⟩; refine ⟨_, rfl, ?_⟩; replace BK507 := bb (bk BK507) hb; replace BK508 := bb (bk BK508) hb; replace BK512 := bb (bk BK512) hb; replace BK516 := bb (bk BK516) hb; replace HB := hbb (hs_ HB) hb; clear hb) | ((with_reducible refine gate_dst (N := 9) rfl ?_); (try (refine gate_guard (by rfl) ?_; dsimp only)); refine bE 9 #[.int .i64 0, .int .i64 0] 29 ?_; intro gb520 hg w64 hbox hb; have BK520 := Aside0.mk (hbox); have GE520 := gw hg (hs_ HB); have GW520 := GE520; have NB507_520 := nl hg (bk BK507); have NB520_507 := ng hg (bk BK507); have NB508_520 := nl hg (bk BK508); have NB520_508 := ng hg (bk BK508); have NB512_520 := nl hg (bk BK512); have NB520_512 := ng hg (bk BK512); have NB516_520 := nl hg (bk BK516); have NB520_516 := ng hg (bk BK516); replace BK507 := bb (bk BK507) hb; replace BK508 := bb (bk BK508) hb; replace BK512 := bb (bk BK512) hb; replace BK516 := bb (bk BK516) hb; replace HB := hbb (hs_ HB) hb; clear hb hbox hg; have hnb65 := NB520_507.out; have hnc65 := NB507_520.out; have hnb66 := NB520_508.out; have hnc66 := NB508_520.out; have hnb67 := NB520_512.out; have hnc67 := NB512_520.out; have hnb68 := NB520_516.out; have hnc68 := NB516_520.out; obtain ⟨hcz69_0, hcz69_1, hfz69_0, hfz69_1⟩ := cz2 BK520; obtain ⟨hcz70_0, hcz70_1, hfz70_0, hfz70_1⟩ := cz2 BK507; obtain ⟨hcz71_0, hcz71_1, hfz71_0, hfz71_1⟩ := cz2 BK508) | ((with_reducible refine gate_callee (f := 39) rfl ?_); refine gL 68 Try.func39 #[.int .i64 t504, .int .i64 t506] ?_; (with_reducible refine (impl_AngDiff.calls kj5 t504 t506 t521 t522 _ A52.out).mono ?_); rintro e w' ⟨rfl, ⟨nd, rfl⟩⟩; refine ⟨_, rfl, ?_⟩) | (go_at_call 22; (with_reducible refine (impl_FanHas.calls t517 t518 ji54 t523 _ A55.out).mono ?_); rintro e w72 ⟨rfl, hb⟩; replace BK507 := bb (bk1 BK507 NB507_520) hb; replace BK508 := bb (bk1 BK508 NB508_520) hb; replace BK512 := bb (bk1 BK512 NB512_520) hb; replace BK516 := bb (bk1 BK516 NB516_520) hb; replace BK520 := bb (o := .cells #[.int .i64 t517, .int .i64 t518] 29 (0, 0)) (bkp BK520) hb; replace HB := hbb (hs_ HB) hb; clear hb))
      go_ret
      exact ⟨by first | rfl | (simp [errW_none, errW_some] <;> rfl) | (simp only [← hji54]; first | rfl | (simp [errW_none, errW_some] <;> rfl)) | (simp [*, errW_none, errW_some] <;> rfl), hs_ HB⟩
     ·replace c53 := Bool.eq_false_iff.mpr c53
      subst c53
      have H1 : (some false) = some r := by rw [if_neg (show ¬ (false = true) by decide)] at H; exact H
      clear H
      have H := H1
      clear H1
      obtain rfl := Option.some.inj H
      have hnb73 := NB507_508.out
      have hnc73 := NB508_507.out
      have hnb74 := NB507_512.out
      have hnc74 := NB512_507.out
      have hnb75 := NB507_516.out
      have hnc75 := NB516_507.out
      obtain ⟨hcz76_0, hcz76_1, hfz76_0, hfz76_1⟩ := cz2 BK507
      have hnb77 := NB508_512.out
      have hnc77 := NB512_508.out
      have hnb78 := NB508_516.out
      have hnc78 := NB516_508.out
      obtain ⟨hcz79_0, hcz79_1, hfz79_0, hfz79_1⟩ := cz2 BK508
      go_wp2_with (first | ((with_reducible refine gate_callee (f := 20) rfl ?_); refine gL 60 Try.func20 #[.agg #[.int .i64 0, .int .i64 t504], .agg #[.int .i64 0, .int .i64 t506]] ?_; (with_reducible refine (impl_SpotDist.calls kj5 0 t504 0 t506 t517 t518 false _ A51.out).mono ?_); rintro e w80 ⟨rfl, hb⟩; refine ⟨_, rfl, ?_⟩; replace BK507 := bb (bk BK507) hb; replace BK508 := bb (bk BK508) hb; replace BK512 := bb (bk BK512) hb; replace BK516 := bb (bk BK516) hb; replace HB := hbb (hs_ HB) hb; clear hb) | ((with_reducible refine gate_dst (N := 9) rfl ?_); (try (refine gate_guard (by rfl) ?_; dsimp only)); refine bE 9 #[.int .i64 0, .int .i64 0] 29 ?_; intro gb520 hg w81 hbox hb; have BK520 := Aside0.mk (hbox); have GE520 := gw hg (hs_ HB); have GW520 := GE520; have NB507_520 := nl hg (bk BK507); have NB520_507 := ng hg (bk BK507); have NB508_520 := nl hg (bk BK508); have NB520_508 := ng hg (bk BK508); have NB512_520 := nl hg (bk BK512); have NB520_512 := ng hg (bk BK512); have NB516_520 := nl hg (bk BK516); have NB520_516 := ng hg (bk BK516); replace BK507 := bb (bk BK507) hb; replace BK508 := bb (bk BK508) hb; replace BK512 := bb (bk BK512) hb; replace BK516 := bb (bk BK516) hb; replace HB := hbb (hs_ HB) hb; clear hb hbox hg; have hnb82 := NB520_507.out; have hnc82 := NB507_520.out; have hnb83 := NB520_508.out; have hnc83 := NB508_520.out; have hnb84 := NB520_512.out; have hnc84 := NB512_520.out; have hnb85 := NB520_516.out; have hnc85 := NB516_520.out; obtain ⟨hcz86_0, hcz86_1, hfz86_0, hfz86_1⟩ := cz2 BK520; obtain ⟨hcz87_0, hcz87_1, hfz87_0, hfz87_1⟩ := cz2 BK507; obtain ⟨hcz88_0, hcz88_1, hfz88_0, hfz88_1⟩ := cz2 BK508) | ((with_reducible refine gate_callee (f := 39) rfl ?_); refine gL 68 Try.func39 #[.int .i64 t504, .int .i64 t506] ?_; (with_reducible refine (impl_AngDiff.calls kj5 t504 t506 t521 t522 _ A52.out).mono ?_); rintro e w' ⟨rfl, ⟨nd, rfl⟩⟩; refine ⟨_, rfl, ?_⟩))
      go_ret
      exact ⟨by first | rfl | (simp [errW_none, errW_some] <;> rfl) | (simp [*, errW_none, errW_some] <;> rfl), hs_ HB⟩


theorem drawSpotDist_tells {l : List Int} (hl : Bytes l) {k : Nat} (hk : 20 ≤ k) : ∃ pu pa qu qa, spec_DrawSpotDist.f k l = some (pu, pa, qu, qa) := by
 unfold spec_DrawSpotDist.f
 obtain ⟨b, h1, h2, h3⟩ := open_tells hl
 rw [h1]; simp only [Option.bind_some]
 obtain ⟨pu, pa, qu, qa, p, q1, q2, q3⟩ := spots_tells h2 h3 (show (0 : Int) ≤ 0 by omega) (by omega) hk
 rw [q1]; simp only [Option.bind_some]
 exact ⟨_, _, _, _, rfl⟩
theorem distR_in {pu pa qu qa : Int} (h : (Up pu ∧ Ar pa) ∧ (Up qu ∧ Ar qa)) : distR pu pa qu qa = ((distOf (squareM pu pa qu qa)).1, (distOf (squareM pu pa qu qa)).2, true) := if_pos h
theorem distR_out {pu pa qu qa : Int} (h : ¬ ((Up pu ∧ Ar pa) ∧ (Up qu ∧ Ar qa))) : distR pu pa qu qa = (0, 0, false) := if_neg h
theorem FnSpotDistAround_pure {l0 : List Int} (hl : Bytes l0) {k : Nat} (hk : 300 ≤ k) : laws_FnSpotDistAround.f (k + 1) l0 = some true := by
 unfold laws_FnSpotDistAround.f
 by_cases h : (l0.length : Int) > 1048576
 ·rw [if_pos h]
 rw [if_neg h]
 obtain ⟨pu, pa, qu, qa, hd⟩ := drawSpotDist_tells hl (k := k + 1) (by omega)
 obtain ⟨i1, i2⟩ := SpotDist_is pu pa qu qa (k := k + 1) (by omega)
 rw [hd]; simp only [Option.bind_some]
 rw [i1, i2]
 by_cases hin : (Up pu ∧ Ar pa) ∧ (Up qu ∧ Ar qa)
 ·rw [distR_in hin]
  simp only [Option.bind_some, bne_self_eq_false, beq_self_eq_true, Bool.not_true, Bool.not_false, Bool.or_false, Bool.or_self, Bool.and_self, Bool.false_eq_true, if_false, if_true]
  rw [laws_FnSpotDistAround.j0]
  simp only [Bool.false_eq_true, if_false]
  have us := (square_parts hin.1.1 hin.2.1 pa qa).2.2
  obtain ⟨d1, d2, d3⟩ := dist_ends us
  obtain ⟨a1, a2⟩ := hin.1.2
  obtain ⟨b1, b2⟩ := hin.2.2
  have h0 : Up 0 := ⟨by omega, by omega⟩
  obtain ⟨k, rfl⟩ : ∃ q, k = q + 1 := ⟨k - 1, by omega⟩
  rw [(SpotDist_is 0 pa 0 qa (by omega)).1, distR_in ⟨⟨h0, hin.1.2⟩, h0, hin.2.2⟩, square_middle]
  have ang : impl_AngDiff.f (k + 1) pa qa = some (if (qa - pa) % 129600000 > 64800000 then (qa - pa) % 129600000 - 129600000 else (qa - pa) % 129600000, true) := by
   unfold impl_AngDiff.f impl_isAngle.f
   have e1 : decide (-1000000000000 ≤ pa ∧ pa ≤ 1000000000000) = true := decide_eq_true ⟨by omega, by omega⟩
   have e2 : decide (-1000000000000 ≤ qa ∧ qa ≤ 1000000000000) = true := decide_eq_true ⟨by omega, by omega⟩
   simp only [in_is, Option.bind_some, e1, e2, if_true, Bool.not_true]
   rw [impl_AngDiff.j0]
   simp only [Bool.false_eq_true, if_false]
   rw [w64 (x := qa - pa) (by omega) (by omega), modulo_is (by omega) (by omega) (by omega) (by omega)]
   simp only [Option.bind_some]
   rw [w64 (by omega) (by omega)]
   split <;> rfl
  rw [ang]
  simp only [Option.bind_some, if_true, mx_is]
  have a := dist_ends (sq_half (qa - pa)).2
  have h1 : ∀ d, d = (if (qa - pa) % 129600000 > 64800000 then (qa - pa) % 129600000 - 129600000 else (qa - pa) % 129600000) → (distOf (sqP (qa - pa))).1 ≤ max d (wrap64 (-d)) ∧ max d (wrap64 (-d)) ≤ (distOf (sqP (qa - pa))).2 := by
   intro d hd
   have hd1 : -64800000 ≤ d ∧ d ≤ 64800000 := by rw [hd]; split <;> omega
   have e : sqP (qa - pa) = sqP d := sq_congr (by rw [hd]; split <;> omega)
   rw [w64 (by omega) (by omega), e]
   rcases Int.le_total 0 d with g | g
   ·have m : max d (-d) = d := by omega
    rw [m]; exact dist_has (by omega) (by omega)
   ·have m : max d (-d) = -d := by omega
    rw [m, ← sq_neg]; exact dist_has (by omega) (by omega)
  have h2 := h1 _ rfl
  rw [FanHas_is (by omega) a.2.1 (by omega)]
  simp only [h2, and_self, decide_true, Option.bind_some]
 ·rw [distR_out hin]
  simp [laws_FnSpotDistAround.j0]
theorem FnSpotDistAround_true (A0 : Option Addr) (c0 : Nat) (l0 : List Int) (w : World) (hr0 : Kd.C (Kd.int .u8) w A0 l0.length l0) (hc0 : l0.length ≤ c0) (hw0 : ∀ x ∈ l0, (Lit.int .u8 x).wf = true) :
  Calls Try.prog 15 #[.slice A0 l0.length c0] w fun e w' => e = .returned (.bool true) ∧ Below w.heap.size w w' :=
 laws_FnSpotDistAround.calls 301 A0 c0 l0 true w hr0 hc0 (FnSpotDistAround_pure (bytes_of hw0) (by omega))

end Go.Proofs.Ytmcippkpgmehdaa.M
