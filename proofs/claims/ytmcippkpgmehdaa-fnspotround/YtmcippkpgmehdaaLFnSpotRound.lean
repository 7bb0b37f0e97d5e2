import Derived.Test.YtmcippkpgmehdaaPa
import Derived.Test.YtmcippkpgmehdaaP8
import Derived.Test.YtmcippkpgmehdaaDj
namespace Go.Proofs.Ytmcippkpgmehdaa.M
open Go.RowKit Go.Proofs.YtmcippkpgmehdaaW.PrintWords Go.Proofs.YtmcippkpgmehdaaW.PrintLast Go.Proofs.YtmcippkpgmehdaaW.PrintMore
attribute [local go_sem] max2_int min2_int max_two min_two max_three min_three max_four min_four
attribute [local go_sem high] eqA42 eqA29 eqA24
attribute [local go_sem] fld42_0 fld42_1 fld29_0 fld29_1 fld24_0 fld24_1 fld38_0 fld38_1 fld88_0 fld88_1 fld88_2 fld88_3 fld88_4
set_option linter.unusedVariables false
set_option linter.unusedSimpArgs false
/-! ### laws_FnSpotRound: function 16 -/
def laws_FnSpotRound.j0 : Nat → Int → Int → Int → Bool → Int → Bool → Bool → Int → Int → Int → Int → Option (Bool)
 | 0, _, _, _, _, _, _, _, _, _, _, _ => none
 | k + 1, x5, x6, x7, x8, x9, x10, x54, x570000, x570001, x571000, x571001 => if x54 = true then (if (x10 == x8) = true then (some (x9 == x7)) else (some false)) else ((impl_SpotDist.f k x570000 x570001 x571000 x571001).bind fun bt575 => ((impl_NumRound.f bt575.1 x5 x6).bind fun bt579 => ((impl_NumRound.f bt575.2.1 x5 x6).bind fun bt581 => (if x9 = bt579.1 then (some (x9 == bt581.1)) else (some false)))))
def laws_FnSpotRound.f (k : Nat) (l0 : List Int) : Option (Bool) := if (l0.length : Int) > 1048576 then (some true) else ((spec_DrawSpotRound.f k l0).bind fun bt563 => ((spec_SpotRound.f k bt563.1 bt563.2.1 bt563.2.2.1 bt563.2.2.2.1 bt563.2.2.2.2.1 bt563.2.2.2.2.2).bind fun bt571 => ((impl_SpotRound.f k bt563.1 bt563.2.1 bt563.2.2.1 bt563.2.2.2.1 bt563.2.2.2.2.1 bt563.2.2.2.2.2).bind fun bt573 => (if (bt573.2 != bt571.2) = true then (laws_FnSpotRound.j0 k bt563.2.2.2.2.1 bt563.2.2.2.2.2 bt571.1 bt571.2 bt573.1 bt573.2 true bt563.1 bt563.2.1 bt563.2.2.1 bt563.2.2.2.1) else (if bt573.1 = bt571.1 then (laws_FnSpotRound.j0 k bt563.2.2.2.2.1 bt563.2.2.2.2.2 bt571.1 bt571.2 bt573.1 bt573.2 (!bt573.2) bt563.1 bt563.2.1 bt563.2.2.1 bt563.2.2.2.1) else (laws_FnSpotRound.j0 k bt563.2.2.2.2.1 bt563.2.2.2.2.2 bt571.1 bt571.2 bt573.1 bt573.2 true bt563.1 bt563.2.1 bt563.2.2.1 bt563.2.2.2.1))))))
set_option maxHeartbeats 8000000 in
set_option maxRecDepth 100000 in
theorem laws_FnSpotRound.calls (k : Nat) (A0 : Option Addr) (c0 : Nat) (l0 : List Int) (r : Bool) (w : World) (hr0 : Kd.C (Kd.int .u8) w A0 l0.length l0) (hc0 : l0.length ≤ c0) (h : laws_FnSpotRound.f k l0 = some r) :
  Calls Try.prog 16 #[.slice A0 l0.length c0] w fun e w' => e = .returned (.bool r) ∧ Below w.heap.size w w' := by
 have hu24 := Try.underlying24
 have hu29 := Try.underlying29
 have HR0 := Aside0.mk hr0
 have HC0 := Aside0.mk hc0
 clear hr0 hc0
 have HB := Aside0.mk (Below.refl w.heap.size w)
 have H : (if (l0.length : Int) > 1048576 then (some true) else ((spec_DrawSpotRound.f k l0).bind fun bt563 => ((spec_SpotRound.f k bt563.1 bt563.2.1 bt563.2.2.1 bt563.2.2.2.1 bt563.2.2.2.2.1 bt563.2.2.2.2.2).bind fun bt571 => ((impl_SpotRound.f k bt563.1 bt563.2.1 bt563.2.2.1 bt563.2.2.2.1 bt563.2.2.2.2.1 bt563.2.2.2.2.2).bind fun bt573 => (if (bt573.2 != bt571.2) = true then (laws_FnSpotRound.j0 k bt563.2.2.2.2.1 bt563.2.2.2.2.2 bt571.1 bt571.2 bt573.1 bt573.2 true bt563.1 bt563.2.1 bt563.2.2.1 bt563.2.2.2.1) else (if bt573.1 = bt571.1 then (laws_FnSpotRound.j0 k bt563.2.2.2.2.1 bt563.2.2.2.2.2 bt571.1 bt571.2 bt573.1 bt573.2 (!bt573.2) bt563.1 bt563.2.1 bt563.2.2.1 bt563.2.2.2.1) else (laws_FnSpotRound.j0 k bt563.2.2.2.2.1 bt563.2.2.2.2.2 bt571.1 bt571.2 bt573.1 bt573.2 true bt563.1 bt563.2.1 bt563.2.2.1 bt563.2.2.2.1))))))) = some r := h
 clear h
 by_cases c2 : (l0.length : Int) > 1048576
 ·rw [if_pos c2] at H
  have c2b0 : decide (1048576 < (l0.length : Int)) = true := decide_eq_true c2
  have c2b1 : decide (1048576 < l0.length) = true := decide_eq_true (by omega)
  clear c2
  obtain rfl := Option.some.inj H
  go_enter Try.func16, Try.ntmps16
  go_wp2
  go_ret
  exact ⟨by first | rfl | (simp [errW_none, errW_some] <;> rfl) | (simp [*, errW_none, errW_some] <;> rfl), hz0 HB⟩
 ·rw [if_neg c2] at H
  have c2b0 : decide (1048576 < (l0.length : Int)) = false := decide_eq_false c2
  have c2b1 : decide (1048576 < l0.length) = false := decide_eq_false (by omega)
  clear c2
  replace H := Option.bind_eq_some_iff.mp H
  obtain ⟨⟨t563, t564, t565, t566, t567, t568⟩, A30, H⟩ := H
  try dsimp only at H
  have A3 := Aside0.mk A30
  clear A30
  replace H := Option.bind_eq_some_iff.mp H
  obtain ⟨⟨t571, t572⟩, A40, H⟩ := H
  try dsimp only at H
  have A4 := Aside0.mk A40
  clear A40
  replace H := Option.bind_eq_some_iff.mp H
  obtain ⟨⟨t573, t574⟩, A50, H⟩ := H
  try dsimp only at H
  have A5 := Aside0.mk A50
  clear A50
  have HC6 := Aside0.mk H
  clear H
  go_enter Try.func16, Try.ntmps16
  go_upto_region 6 with (first | ((with_reducible refine gate_callee (f := 40) rfl ?_); refine gL 22 Try.func40 #[.slice A0 l0.length c0] ?_; (with_reducible refine (spec_DrawSpotRound.calls k _ _ l0 t563 t564 t565 t566 t567 t568 _ ?side1 ?side2 A3.out).mono ?_); (case side1 => repeat (first | exact HR0.out | (with_reducible refine Kd.C_alloc ?_ _) | (with_reducible refine Kd.C_drewN ?_ _) | (with_reducible refine Kd.C_drew ?_))); (case side2 => exact HC0.out); rintro e w7 ⟨rfl, hb⟩; refine ⟨_, rfl, ?_⟩; replace HB := hbb (hz0 HB) hb; clear hb) | ((with_reducible refine gate_dst (N := 3) rfl ?_); refine bE 3 #[.int .i64 0, .int .i64 0] 24 ?_; intro gb569 hg w8 hbox hb; have BK569 := Aside0.mk (hbox); have GE569 := gw hg (hz0 HB); replace HB := hbb (hz0 HB) hb; clear hb hbox hg) | ((with_reducible refine gate_dst (N := 4) rfl ?_); refine bE 4 #[.int .i64 0, .int .i64 0] 24 ?_; intro gb570 hg w9 hbox hb; have BK570 := Aside0.mk (hbox); have GE570 := gw hg (hzs HB); have NB569_570 := nl hg (bk BK569); have NB570_569 := ng hg (bk BK569); replace BK569 := bb (bk BK569) hb; replace HB := hbb (hzs HB) hb; clear hb hbox hg; have hnb10 := NB569_570.out; have hnc10 := NB570_569.out; obtain ⟨hcz11_0, hcz11_1, hfz11_0, hfz11_1⟩ := cz2 BK569; obtain ⟨hcz12_0, hcz12_1, hfz12_0, hfz12_1⟩ := cz2 BK570) | ((with_reducible refine gate_callee (f := 37) rfl ?_); refine gL 32 Try.func37 #[.agg #[.int .i64 t563, .int .i64 t564], .agg #[.int .i64 t565, .int .i64 t566], .int .i64 t567, .int .i64 t568] ?_; (with_reducible refine (spec_SpotRound.calls k t563 t564 t565 t566 t567 t568 t571 t572 _ A4.out).mono ?_); rintro e w13 ⟨rfl, hb⟩; refine ⟨_, rfl, ?_⟩; replace BK569 := bb (o := .cells #[.int .i64 t563, .int .i64 t564] 24 (0, 0)) (bkp BK569) hb; replace BK570 := bb (o := .cells #[.int .i64 t565, .int .i64 t566] 24 (0, 0)) (bkp BK570) hb; replace HB := hbb (hzs HB) hb; clear hb; obtain ⟨hcz14_0, hcz14_1, hfz14_0, hfz14_1⟩ := cz2 BK569; obtain ⟨hcz15_0, hcz15_1, hfz15_0, hfz15_1⟩ := cz2 BK570) | ((with_reducible refine gate_callee (f := 38) rfl ?_); refine gL 40 Try.func38 #[.agg #[.int .i64 t563, .int .i64 t564], .agg #[.int .i64 t565, .int .i64 t566], .int .i64 t567, .int .i64 t568] ?_; (with_reducible refine (impl_SpotRound.calls k t563 t564 t565 t566 t567 t568 t573 t574 _ A5.out).mono ?_); rintro e w16 ⟨rfl, hb⟩; refine ⟨_, rfl, ?_⟩; replace BK569 := bb (bk BK569) hb; replace BK570 := bb (bk BK570) hb; replace HB := hbb (hzs HB) hb; clear hb))
  (try simp only [Act.put, List.setIfInBounds_toArray, List.set_cons_zero, List.set_cons_succ])
  go_cut [54] (fun v54 wc => ∃ (kq : Nat) (x54_5 : Bool), v54 = .bool x54_5 ∧ Aside0 (laws_FnSpotRound.j0 kq t567 t568 t571 t572 t573 t574 x54_5 t563 t564 t565 t566 = some r) ∧ Aside0 (kq ≤ k) ∧ Aside0 (wc.heap[gb569]? = some (.cells #[.int .i64 t563, .int .i64 t564] 24 (0, 0))) ∧ Aside0 (wc.heap[gb570]? = some (.cells #[.int .i64 t565, .int .i64 t566] 24 (0, 0))) ∧ Aside0 (Below w.heap.size w wc))
  case first =>
   have H := HC6.out
   clear HC6
   by_cases c17 : (t574 != t572) = true
   ·rw [if_pos c17] at H
    have c17b0 : (t574 != t572) = true := c17
    (try (have c17b1 : decide (t574 = t572) = false := by simpa using c17))
    (try (have c17b2 : (t574 == t572) = false := by simpa using c17))
    (try (have c17b3 : ¬ (t574 = t572) := by simpa using c17))
    clear c17
    (first | rw [c17b0] | (simp only [i64_w, i32_w]; rw [c17b0]) | skip)
    have H' := Aside0.mk H
    clear H
    go_wp2
    go_meet
    case rel => exact ⟨_, (true), (by first | rfl | (simp; done) | (simp [*]; done)), H', ⟨by first | omega | exact Nat.le_refl _⟩, ⟨bk BK569⟩, ⟨bk BK570⟩, ⟨hzs HB⟩⟩
   ·rw [if_neg c17] at H
    have c17b0 : (t574 != t572) = false := by simpa using c17
    (try (have c17b1 : decide (t574 = t572) = true := by simpa using c17))
    (try (have c17b2 : (t574 == t572) = true := by simpa using c17))
    clear c17
    (first | rw [c17b0] | (simp only [i64_w, i32_w]; rw [c17b0]) | skip)
    by_cases c18 : t573 = t571
    ·rw [if_pos c18] at H
     have c18b0 : (t573 == t571) = true := beq_iff_eq.mpr c18
     have c18b1 : (t573 != t571) = false := bne_eq_false_iff_eq.mpr c18
     clear c18
     have H' := Aside0.mk H
     clear H
     go_wp2
     go_meet
     case rel => exact ⟨_, (!t574), (by first | rfl | (simp; done) | (simp [*]; done)), H', ⟨by first | omega | exact Nat.le_refl _⟩, ⟨bk BK569⟩, ⟨bk BK570⟩, ⟨hzs HB⟩⟩
    ·rw [if_neg c18] at H
     have c18b0 : (t573 == t571) = false := beq_eq_false_iff_ne.mpr c18
     have c18b1 : (t573 != t571) = true := bne_iff_ne.mpr c18
     have H' := Aside0.mk H
     clear H
     go_wp2
     go_meet
     case rel => exact ⟨_, (true), (by first | rfl | (simp; done) | (simp [*]; done)), H', ⟨by first | omega | exact Nat.le_refl _⟩, ⟨bk BK569⟩, ⟨bk BK570⟩, ⟨hzs HB⟩⟩
  case rest =>
   clear HC6
   try clear c1
   try clear c2
   try clear c2b0
   try clear c2b1
   try clear p2
   try clear c3
   try clear c4
   try clear c10
   try clear c16
   try clear c17
   try clear c17b0
   try clear c17b1
   try clear c17b2
   try clear c18
   try clear c18b0
   try clear c18b1
   try clear hcz11_0 hcz11_1
   try clear hcz12_0 hcz12_1
   try clear hcz14_0 hcz14_1
   try clear hcz15_0 hcz15_1
   try clear hfz11_0 hfz11_1
   try clear hfz12_0 hfz12_1
   try clear hfz14_0 hfz14_1
   try clear hfz15_0 hfz15_1
   obtain ⟨kq, x54_5, rfl, HA, HJ5, BK569, BK570, HB⟩ := hcut
   cases kq with
   | zero => exact absurd HA.out (by simp [laws_FnSpotRound.j0])
   | succ kj5 =>
    have H := HA.out
    clear HA
    simp only [laws_FnSpotRound.j0] at H
    by_cases c19 : x54_5 = true
    ·subst c19
     have H1 : (if (t574 == t572) = true then (some (t573 == t571)) else (some false)) = some r := by rw [if_pos rfl] at H; exact H
     clear H
     have H := H1
     clear H1
     by_cases c20 : (t574 == t572) = true
     ·rw [if_pos c20] at H
      have c20b0 : (t574 == t572) = true := c20
      (try (have c20b1 : decide (t574 = t572) = true := by simpa using c20))
      (try (have c20b2 : (t574 == t572) = true := by simpa using c20))
      clear c20
      obtain rfl := Option.some.inj H
      go_wp2
      go_ret
      exact ⟨by first | rfl | (simp [errW_none, errW_some] <;> rfl) | (simp [*, errW_none, errW_some] <;> rfl), hzs HB⟩
     ·rw [if_neg c20] at H
      have c20b0 : (t574 == t572) = false := by simpa using c20
      (try (have c20b1 : decide (t574 = t572) = false := by simpa using c20))
      (try (have c20b2 : (t574 == t572) = false := by simpa using c20))
      (try (have c20b3 : ¬ (t574 = t572) := by simpa using c20))
      clear c20
      obtain rfl := Option.some.inj H
      go_wp2
      go_ret
      exact ⟨by first | rfl | (simp [errW_none, errW_some] <;> rfl) | (simp [*, errW_none, errW_some] <;> rfl), hzs HB⟩
    ·replace c19 := Bool.eq_false_iff.mpr c19
     subst c19
     have H1 : ((impl_SpotDist.f kj5 t563 t564 t565 t566).bind fun bt575 => ((impl_NumRound.f bt575.1 t567 t568).bind fun bt579 => ((impl_NumRound.f bt575.2.1 t567 t568).bind fun bt581 => (if t573 = bt579.1 then (some (t573 == bt581.1)) else (some false))))) = some r := by rw [if_neg (show ¬ (false = true) by decide)] at H; exact H
     clear H
     have H := H1
     clear H1
     replace H := Option.bind_eq_some_iff.mp H
     obtain ⟨⟨t575, t576, t577⟩, A210, H⟩ := H
     try dsimp only at H
     have A21 := Aside0.mk A210
     clear A210
     replace H := Option.bind_eq_some_iff.mp H
     obtain ⟨⟨t579, t580⟩, A220, H⟩ := H
     try dsimp only at H
     have A22 := Aside0.mk A220
     clear A220
     replace H := Option.bind_eq_some_iff.mp H
     obtain ⟨⟨t581, t582⟩, A230, H⟩ := H
     try dsimp only at H
     have A23 := Aside0.mk A230
     clear A230
     by_cases c24 : t573 = t579
     ·rw [if_pos c24] at H
      have c24b0 : (t573 == t579) = true := beq_iff_eq.mpr c24
      have c24b1 : (t573 != t579) = false := bne_eq_false_iff_eq.mpr c24
      clear c24
      obtain rfl := Option.some.inj H
      have hnb25 := NB569_570.out
      have hnc25 := NB570_569.out
      obtain ⟨hcz26_0, hcz26_1, hfz26_0, hfz26_1⟩ := cz2 BK569
      obtain ⟨hcz27_0, hcz27_1, hfz27_0, hfz27_1⟩ := cz2 BK570
      go_wp2_with (first | ((with_reducible refine gate_callee (f := 20) rfl ?_); refine gL 66 Try.func20 #[.agg #[.int .i64 t563, .int .i64 t564], .agg #[.int .i64 t565, .int .i64 t566]] ?_; (with_reducible refine (impl_SpotDist.calls kj5 t563 t564 t565 t566 t575 t576 t577 _ A21.out).mono ?_); rintro e w28 ⟨rfl, hb⟩; refine ⟨_, rfl, ?_⟩; replace BK569 := bb (bk BK569) hb; replace BK570 := bb (bk BK570) hb; replace HB := hbb (hzs HB) hb; clear hb) | ((with_reducible refine gate_dst (N := 11) rfl ?_); refine bE 11 #[.int .i64 0, .int .i64 0] 29 ?_; intro gb578 hg w29 hbox hb; have BK578 := Aside0.mk (hbox); have GE578 := gw hg (hzs HB); have GW578 := GE578; have NB569_578 := nl hg (bk BK569); have NB578_569 := ng hg (bk BK569); have NB570_578 := nl hg (bk BK570); have NB578_570 := ng hg (bk BK570); replace BK569 := bb (bk BK569) hb; replace BK570 := bb (bk BK570) hb; replace HB := hbb (hzs HB) hb; clear hb hbox hg; have hnb30 := NB578_569.out; have hnc30 := NB569_578.out; have hnb31 := NB578_570.out; have hnc31 := NB570_578.out; obtain ⟨hcz32_0, hcz32_1, hfz32_0, hfz32_1⟩ := cz2 BK578) | ((with_reducible refine gate_callee (f := 41) rfl ?_); refine gL 74 Try.func41 #[.int .i64 t575, .int .i64 t567, .int .i64 t568] ?_; (with_reducible refine (impl_NumRound.calls t575 t567 t568 t579 t580 _ A22.out).mono ?_); rintro e w' ⟨rfl, ⟨nd, rfl⟩⟩; refine ⟨_, rfl, ?_⟩) | ((with_reducible refine gate_callee (f := 41) rfl ?_); refine gL 82 Try.func41 #[.int .i64 t576, .int .i64 t567, .int .i64 t568] ?_; (with_reducible refine (impl_NumRound.calls t576 t567 t568 t581 t582 _ A23.out).mono ?_); rintro e w' ⟨rfl, ⟨nd, rfl⟩⟩; refine ⟨_, rfl, ?_⟩))
      go_ret
      exact ⟨by first | rfl | (simp [errW_none, errW_some] <;> rfl) | (simp [*, errW_none, errW_some] <;> rfl), hzs HB⟩
     ·rw [if_neg c24] at H
      have c24b0 : (t573 == t579) = false := beq_eq_false_iff_ne.mpr c24
      have c24b1 : (t573 != t579) = true := bne_iff_ne.mpr c24
      obtain rfl := Option.some.inj H
      have hnb33 := NB569_570.out
      have hnc33 := NB570_569.out
      obtain ⟨hcz34_0, hcz34_1, hfz34_0, hfz34_1⟩ := cz2 BK569
      obtain ⟨hcz35_0, hcz35_1, hfz35_0, hfz35_1⟩ := cz2 BK570
      go_wp2_with (first | ((with_reducible refine gate_callee (f := 20) rfl ?_); refine gL 66 Try.func20 #[.agg #[.int .i64 t563, .int .i64 t564], .agg #[.int .i64 t565, .int .i64 t566]] ?_; (with_reducible refine (impl_SpotDist.calls kj5 t563 t564 t565 t566 t575 t576 t577 _ A21.out).mono ?_); rintro e w36 ⟨rfl, hb⟩; refine ⟨_, rfl, ?_⟩; replace BK569 := bb (bk BK569) hb; replace BK570 := bb (bk BK570) hb; replace HB := hbb (hzs HB) hb; clear hb) | ((with_reducible refine gate_dst (N := 11) rfl ?_); refine bE 11 #[.int .i64 0, .int .i64 0] 29 ?_; intro gb578 hg w37 hbox hb; have BK578 := Aside0.mk (hbox); have GE578 := gw hg (hzs HB); have GW578 := GE578; have NB569_578 := nl hg (bk BK569); have NB578_569 := ng hg (bk BK569); have NB570_578 := nl hg (bk BK570); have NB578_570 := ng hg (bk BK570); replace BK569 := bb (bk BK569) hb; replace BK570 := bb (bk BK570) hb; replace HB := hbb (hzs HB) hb; clear hb hbox hg; have hnb38 := NB578_569.out; have hnc38 := NB569_578.out; have hnb39 := NB578_570.out; have hnc39 := NB570_578.out; obtain ⟨hcz40_0, hcz40_1, hfz40_0, hfz40_1⟩ := cz2 BK578) | ((with_reducible refine gate_callee (f := 41) rfl ?_); refine gL 74 Try.func41 #[.int .i64 t575, .int .i64 t567, .int .i64 t568] ?_; (with_reducible refine (impl_NumRound.calls t575 t567 t568 t579 t580 _ A22.out).mono ?_); rintro e w' ⟨rfl, ⟨nd, rfl⟩⟩; refine ⟨_, rfl, ?_⟩) | ((with_reducible refine gate_callee (f := 41) rfl ?_); refine gL 82 Try.func41 #[.int .i64 t576, .int .i64 t567, .int .i64 t568] ?_; (with_reducible refine (impl_NumRound.calls t576 t567 t568 t581 t582 _ A23.out).mono ?_); rintro e w' ⟨rfl, ⟨nd, rfl⟩⟩; refine ⟨_, rfl, ?_⟩))
      go_ret
      exact ⟨by first | rfl | (simp [errW_none, errW_some] <;> rfl) | (simp [*, errW_none, errW_some] <;> rfl), hzs HB⟩


theorem way_tells {b : List Int} (hb : Bytes b) (hl : b.length ≤ 2000) {p : Int} (hp : 0 ≤ p) (hp2 : p < 999000) {k : Nat} (hk : 20 ≤ k) : ∃ v p', spec_l71Way.f k b p = some (v, p') := by
 unfold spec_l71Way.f
 obtain ⟨v, s1, s2, s3⟩ := pick_tells hb hl hp (by omega) (show (20 : Int) < 1073741824 by omega) (k := k) (by omega)
 rw [s1]; simp only [Option.bind_some]
 obtain ⟨x, t1, t2, t3⟩ := pick_tells hb hl (show 0 ≤ p + 1 by omega) (by omega) (show (3 : Int) < 1073741824 by omega) (k := k) (by omega)
 obtain ⟨y, u1, u2, u3⟩ := pick_tells hb hl (show 0 ≤ p + 1 by omega) (by omega) (show (4 : Int) < 1073741824 by omega) (k := k) (by omega)
 rw [t1, u1]; simp only [Option.bind_some]
 by_cases c0 : v = 0
 ·rw [if_pos c0, if_pos t2, if_pos (by simp; omega)]; exact ⟨_, _, rfl⟩
 ·rw [if_neg c0]; exact ⟨_, _, rfl⟩
theorem drawSpotRound_tells {l : List Int} (hl : Bytes l) {k : Nat} (hk : 20 ≤ k) : ∃ pu pa qu qa parts way, spec_DrawSpotRound.f k l = some (pu, pa, qu, qa, parts, way) := by
 unfold spec_DrawSpotRound.f
 obtain ⟨b, h1, h2, h3⟩ := open_tells hl
 rw [h1]; simp only [Option.bind_some]
 obtain ⟨pu, pa, qu, qa, p, q1, q2, q3⟩ := spots_tells h2 h3 (show (0 : Int) ≤ 0 by omega) (by omega) hk
 rw [q1]; simp only [Option.bind_some]
 obtain ⟨v, s1, s2, s3⟩ := pick_tells h2 h3 (show 0 ≤ p by omega) (by omega) (show (5 : Int) < 1073741824 by omega) (k := k) (by omega)
 rw [s1]; simp only [Option.bind_some]
 rw [if_pos s2, if_pos (by simp; omega)]
 obtain ⟨x, p2, t1⟩ := way_tells h2 h3 (show 0 ≤ p + 1 by omega) (by omega) hk
 rw [t1]; simp only [Option.bind_some]
 exact ⟨_, _, _, _, _, _, rfl⟩
theorem distR_in {pu pa qu qa : Int} (h : (Up pu ∧ Ar pa) ∧ (Up qu ∧ Ar qa)) : distR pu pa qu qa = ((distOf (squareM pu pa qu qa)).1, (distOf (squareM pu pa qu qa)).2, true) := if_pos h
theorem distR_out {pu pa qu qa : Int} (h : ¬ ((Up pu ∧ Ar pa) ∧ (Up qu ∧ Ar qa))) : distR pu pa qu qa = (0, 0, false) := if_neg h
theorem FnSpotRound_pure {l0 : List Int} (hl : Bytes l0) {k : Nat} (hk : 300 ≤ k) : laws_FnSpotRound.f (k + 1) l0 = some true := by
 unfold laws_FnSpotRound.f
 by_cases h : (l0.length : Int) > 1048576
 ·rw [if_pos h]
 rw [if_neg h]
 obtain ⟨pu, pa, qu, qa, parts, way, hd⟩ := drawSpotRound_tells hl (k := k + 1) (by omega)
 obtain ⟨i1, i2⟩ := SpotRound_is pu pa qu qa parts way (k := k + 1) (by omega)
 rw [hd]; simp only [Option.bind_some]
 rw [i1, i2]
 simp only [Option.bind_some, bne_self_eq_false, beq_self_eq_true, Bool.not_true, Bool.not_false, Bool.or_false, Bool.or_self, Bool.and_self, Bool.false_eq_true, if_false, if_true]
 rw [laws_FnSpotRound.j0]
 unfold spotR
 by_cases hin : (Up pu ∧ Ar pa) ∧ (Up qu ∧ Ar qa)
 ·rw [(SpotDist_is pu pa qu qa (by omega)).1, distR_in hin]
  simp only [if_true]
  obtain ⟨d1, d2, d3⟩ := dist_ends (square_parts hin.1.1 hin.2.1 pa qa).2.2
  unfold fanR
  by_cases c : (1 ≤ parts ∧ parts ≤ 129600000) ∧ (1 ≤ way ∧ way ≤ 4)
  ·simp only [c, and_self, if_true]
   by_cases e : roundM (distOf (squareM pu pa qu qa)).1 parts way = roundM (distOf (squareM pu pa qu qa)).2 parts way
   ·simp only [e, if_true, Bool.not_true, Bool.false_eq_true, if_false, Option.bind_some]
    rw [NumRound_is (by omega) (by omega) (by omega) (by omega) c.2.1 c.2.2, NumRound_is (by omega) (by omega) (by omega) (by omega) c.2.1 c.2.2]
    simp [e]
   ·simp [e]
  ·simp [c]
 ·rw [distR_out hin]
  simp
theorem FnSpotRound_true (A0 : Option Addr) (c0 : Nat) (l0 : List Int) (w : World) (hr0 : Kd.C (Kd.int .u8) w A0 l0.length l0) (hc0 : l0.length ≤ c0) (hw0 : ∀ x ∈ l0, (Lit.int .u8 x).wf = true) :
  Calls Try.prog 16 #[.slice A0 l0.length c0] w fun e w' => e = .returned (.bool true) ∧ Below w.heap.size w w' :=
 laws_FnSpotRound.calls 301 A0 c0 l0 true w hr0 hc0 (FnSpotRound_pure (bytes_of hw0) (by omega))

end Go.Proofs.Ytmcippkpgmehdaa.M
