import Derived.Test.YtmcippkpgmehdaaP7
import Derived.Test.YtmcippkpgmehdaaP8
import Derived.Test.YtmcippkpgmehdaaPb
import Derived.Test.YtmcippkpgmehdaaDh
namespace Go.Proofs.Ytmcippkpgmehdaa.M
open Go.RowKit Go.Proofs.YtmcippkpgmehdaaW.PrintWords Go.Proofs.YtmcippkpgmehdaaW.PrintLast Go.Proofs.YtmcippkpgmehdaaW.PrintMore
attribute [local go_sem] max2_int min2_int max_two min_two max_three min_three max_four min_four
attribute [local go_sem high] eqA42 eqA29 eqA24
attribute [local go_sem] fld42_0 fld42_1 fld29_0 fld29_1 fld24_0 fld24_1 fld38_0 fld38_1 fld88_0 fld88_1 fld88_2 fld88_3 fld88_4
set_option linter.unusedVariables false
set_option linter.unusedSimpArgs false
/-! ### laws_FnSpotNear: function 9 -/
def laws_FnSpotNear.j0 : Nat → Int → Bool → Int → Int → Int → Int → Int → Int → Option (Bool)
 | 0, _, _, _, _, _, _, _, _ => none
 | k + 1, x6, x45, x493000, x493001, x494000, x494001, x495000, x495001 => if x45 = true then ((spec_SpotNear.f k x493000 x493001 x494000 x494001 x495000 x495001).bind fun t500 => (some (x6 == t500))) else ((impl_SpotDist.f k x493000 x493001 x494000 x494001).bind fun bt501 => ((impl_SpotDist.f k x493000 x493001 x495000 x495001).bind fun bt505 => ((impl_SpotNear.f k x493000 x493001 x495000 x495001 x494000 x494001).bind fun t509 => (if x6 = 1 then (if bt501.1 ≤ bt505.2.1 then (if t509 = 2 then (if x6 = 2 then (if bt505.1 ≤ bt501.2.1 then ((impl_SpotNear.f k x493000 x493001 x494000 x494001 x494000 x494001).bind fun t510 => (some (t510 == 2))) else (some false)) else ((impl_SpotNear.f k x493000 x493001 x494000 x494001 x494000 x494001).bind fun t511 => (some (t511 == 2)))) else (some false)) else (some false)) else (if x6 = 2 then (if bt505.1 ≤ bt501.2.1 then ((impl_SpotNear.f k x493000 x493001 x494000 x494001 x494000 x494001).bind fun t512 => (some (t512 == 2))) else (some false)) else ((impl_SpotNear.f k x493000 x493001 x494000 x494001 x494000 x494001).bind fun t513 => (some (t513 == 2))))))))
def laws_FnSpotNear.f (k : Nat) (l0 : List Int) : Option (Bool) := if (l0.length : Int) > 1048576 then (some true) else ((spec_DrawSpotNear.f k l0).bind fun bt486 => ((impl_SpotNear.f k bt486.1 bt486.2.1 bt486.2.2.1 bt486.2.2.2.1 bt486.2.2.2.2.1 bt486.2.2.2.2.2).bind fun t495 => ((spec_SpotNear.f k bt486.1 bt486.2.1 bt486.2.2.1 bt486.2.2.2.1 bt486.2.2.2.2.1 bt486.2.2.2.2.2).bind fun t496 => (if t495 = t496 then ((spec_SpotOk.f bt486.1 bt486.2.1).bind fun t497 => (if t497 = true then ((spec_SpotOk.f bt486.2.2.1 bt486.2.2.2.1).bind fun t498 => (if t498 = true then ((spec_SpotOk.f bt486.2.2.2.2.1 bt486.2.2.2.2.2).bind fun t499 => (laws_FnSpotNear.j0 k t495 (!t499) bt486.1 bt486.2.1 bt486.2.2.1 bt486.2.2.2.1 bt486.2.2.2.2.1 bt486.2.2.2.2.2)) else (laws_FnSpotNear.j0 k t495 true bt486.1 bt486.2.1 bt486.2.2.1 bt486.2.2.2.1 bt486.2.2.2.2.1 bt486.2.2.2.2.2))) else (laws_FnSpotNear.j0 k t495 true bt486.1 bt486.2.1 bt486.2.2.1 bt486.2.2.2.1 bt486.2.2.2.2.1 bt486.2.2.2.2.2))) else (laws_FnSpotNear.j0 k t495 true bt486.1 bt486.2.1 bt486.2.2.1 bt486.2.2.2.1 bt486.2.2.2.2.1 bt486.2.2.2.2.2)))))
set_option maxHeartbeats 8000000 in
set_option maxRecDepth 100000 in
theorem laws_FnSpotNear.calls (k : Nat) (A0 : Option Addr) (c0 : Nat) (l0 : List Int) (r : Bool) (w : World) (hr0 : Kd.C (Kd.int .u8) w A0 l0.length l0) (hc0 : l0.length ≤ c0) (h : laws_FnSpotNear.f k l0 = some r) :
  Calls Try.prog 9 #[.slice A0 l0.length c0] w fun e w' => e = .returned (.bool r) ∧ Below w.heap.size w w' := by
 have hu24 := Try.underlying24
 have hu29 := Try.underlying29
 have HR0 := Aside0.mk hr0
 have HC0 := Aside0.mk hc0
 clear hr0 hc0
 have HB := Aside0.mk (Below.refl w.heap.size w)
 have H : (if (l0.length : Int) > 1048576 then (some true) else ((spec_DrawSpotNear.f k l0).bind fun bt486 => ((impl_SpotNear.f k bt486.1 bt486.2.1 bt486.2.2.1 bt486.2.2.2.1 bt486.2.2.2.2.1 bt486.2.2.2.2.2).bind fun t495 => ((spec_SpotNear.f k bt486.1 bt486.2.1 bt486.2.2.1 bt486.2.2.2.1 bt486.2.2.2.2.1 bt486.2.2.2.2.2).bind fun t496 => (if t495 = t496 then ((spec_SpotOk.f bt486.1 bt486.2.1).bind fun t497 => (if t497 = true then ((spec_SpotOk.f bt486.2.2.1 bt486.2.2.2.1).bind fun t498 => (if t498 = true then ((spec_SpotOk.f bt486.2.2.2.2.1 bt486.2.2.2.2.2).bind fun t499 => (laws_FnSpotNear.j0 k t495 (!t499) bt486.1 bt486.2.1 bt486.2.2.1 bt486.2.2.2.1 bt486.2.2.2.2.1 bt486.2.2.2.2.2)) else (laws_FnSpotNear.j0 k t495 true bt486.1 bt486.2.1 bt486.2.2.1 bt486.2.2.2.1 bt486.2.2.2.2.1 bt486.2.2.2.2.2))) else (laws_FnSpotNear.j0 k t495 true bt486.1 bt486.2.1 bt486.2.2.1 bt486.2.2.2.1 bt486.2.2.2.2.1 bt486.2.2.2.2.2))) else (laws_FnSpotNear.j0 k t495 true bt486.1 bt486.2.1 bt486.2.2.1 bt486.2.2.2.1 bt486.2.2.2.2.1 bt486.2.2.2.2.2)))))) = some r := h
 clear h
 by_cases c2 : (l0.length : Int) > 1048576
 ·rw [if_pos c2] at H
  have c2b0 : decide (1048576 < (l0.length : Int)) = true := decide_eq_true c2
  have c2b1 : decide (1048576 < l0.length) = true := decide_eq_true (by omega)
  clear c2
  obtain rfl := Option.some.inj H
  go_enter Try.func9, Try.ntmps9
  go_wp2
  go_ret
  exact ⟨by first | rfl | (simp [errW_none, errW_some] <;> rfl) | (simp [*, errW_none, errW_some] <;> rfl), hz0 HB⟩
 ·rw [if_neg c2] at H
  have c2b0 : decide (1048576 < (l0.length : Int)) = false := decide_eq_false c2
  have c2b1 : decide (1048576 < l0.length) = false := decide_eq_false (by omega)
  clear c2
  replace H := Option.bind_eq_some_iff.mp H
  obtain ⟨⟨t486, t487, t488, t489, t490, t491⟩, A30, H⟩ := H
  try dsimp only at H
  have A3 := Aside0.mk A30
  clear A30
  replace H := Option.bind_eq_some_iff.mp H
  obtain ⟨t495, A40, H⟩ := H
  try dsimp only at H
  have A4 := Aside0.mk A40
  clear A40
  have HC5 := Aside0.mk H
  clear H
  go_enter Try.func9, Try.ntmps9
  go_upto_region 5 with (first | ((with_reducible refine gate_callee (f := 34) rfl ?_); refine gL 17 Try.func34 #[.slice A0 l0.length c0] ?_; (with_reducible refine (spec_DrawSpotNear.calls k _ _ l0 t486 t487 t488 t489 t490 t491 _ ?side1 ?side2 A3.out).mono ?_); (case side1 => repeat (first | exact HR0.out | (with_reducible refine Kd.C_alloc ?_ _) | (with_reducible refine Kd.C_drewN ?_ _) | (with_reducible refine Kd.C_drew ?_))); (case side2 => exact HC0.out); rintro e w6 ⟨rfl, hb⟩; refine ⟨_, rfl, ?_⟩; replace HB := hbb (hz0 HB) hb; clear hb) | ((with_reducible refine gate_dst (N := 3) rfl ?_); refine bE 3 #[.int .i64 0, .int .i64 0] 24 ?_; intro gb492 hg w7 hbox hb; have BK492 := Aside0.mk (hbox); have GE492 := gw hg (hz0 HB); replace HB := hbb (hz0 HB) hb; clear hb hbox hg) | ((with_reducible refine gate_dst (N := 4) rfl ?_); refine bE 4 #[.int .i64 0, .int .i64 0] 24 ?_; intro gb493 hg w8 hbox hb; have BK493 := Aside0.mk (hbox); have GE493 := gw hg (hzs HB); have NB492_493 := nl hg (bk BK492); have NB493_492 := ng hg (bk BK492); replace BK492 := bb (bk BK492) hb; replace HB := hbb (hzs HB) hb; clear hb hbox hg) | ((with_reducible refine gate_dst (N := 5) rfl ?_); refine bE 5 #[.int .i64 0, .int .i64 0] 24 ?_; intro gb494 hg w9 hbox hb; have BK494 := Aside0.mk (hbox); have GE494 := gw hg (hzs HB); have NB492_494 := nl hg (bk BK492); have NB494_492 := ng hg (bk BK492); have NB493_494 := nl hg (bk BK493); have NB494_493 := ng hg (bk BK493); replace BK492 := bb (bk BK492) hb; replace BK493 := bb (bk BK493) hb; replace HB := hbb (hzs HB) hb; clear hb hbox hg; have hnb10 := NB492_493.out; have hnc10 := NB493_492.out; have hnb11 := NB492_494.out; have hnc11 := NB494_492.out; obtain ⟨hcz12_0, hcz12_1, hfz12_0, hfz12_1⟩ := cz2 BK492; have hnb13 := NB493_494.out; have hnc13 := NB494_493.out; obtain ⟨hcz14_0, hcz14_1, hfz14_0, hfz14_1⟩ := cz2 BK493; obtain ⟨hcz15_0, hcz15_1, hfz15_0, hfz15_1⟩ := cz2 BK494) | ((with_reducible refine gate_callee (f := 29) rfl ?_); refine gL 24 Try.func29 #[.agg #[.int .i64 t486, .int .i64 t487], .agg #[.int .i64 t488, .int .i64 t489], .agg #[.int .i64 t490, .int .i64 t491]] ?_; (with_reducible refine (impl_SpotNear.calls k t486 t487 t488 t489 t490 t491 t495 _ A4.out).mono ?_); rintro e w16 ⟨rfl, hb⟩; refine ⟨_, rfl, ?_⟩; replace BK492 := bb (o := .cells #[.int .i64 t486, .int .i64 t487] 24 (0, 0)) (bkp BK492) hb; replace BK493 := bb (o := .cells #[.int .i64 t488, .int .i64 t489] 24 (0, 0)) (bkp BK493) hb; replace BK494 := bb (o := .cells #[.int .i64 t490, .int .i64 t491] 24 (0, 0)) (bkp BK494) hb; replace HB := hbb (hzs HB) hb; clear hb))
  (try simp only [Act.put, List.setIfInBounds_toArray, List.set_cons_zero, List.set_cons_succ])
  go_cut [45] (fun v45 wc => ∃ (kq : Nat) (x45_4 : Bool), v45 = .bool x45_4 ∧ Aside0 (laws_FnSpotNear.j0 kq t495 x45_4 t486 t487 t488 t489 t490 t491 = some r) ∧ Aside0 (kq ≤ k) ∧ Aside0 (wc.heap[gb492]? = some (.cells #[.int .i64 t486, .int .i64 t487] 24 (0, 0))) ∧ Aside0 (wc.heap[gb493]? = some (.cells #[.int .i64 t488, .int .i64 t489] 24 (0, 0))) ∧ Aside0 (wc.heap[gb494]? = some (.cells #[.int .i64 t490, .int .i64 t491] 24 (0, 0))) ∧ Aside0 (Below w.heap.size w wc))
  case first =>
   have H := HC5.out
   clear HC5
   replace H := Option.bind_eq_some_iff.mp H
   obtain ⟨t496, A170, H⟩ := H
   try dsimp only at H
   have A17 := Aside0.mk A170
   clear A170
   by_cases c18 : t495 = t496
   ·rw [if_pos c18] at H
    have c18b0 : (t495 == t496) = true := beq_iff_eq.mpr c18
    have c18b1 : (t495 != t496) = false := bne_eq_false_iff_eq.mpr c18
    clear c18
    (first | rw [c18b0] | (simp only [i64_w, i32_w]; rw [c18b0]) | skip)
    replace H := Option.bind_eq_some_iff.mp H
    obtain ⟨t497, A190, H⟩ := H
    try dsimp only at H
    have A19 := Aside0.mk A190
    clear A190
    by_cases c20 : t497 = true
    ·subst c20
     have H1 : ((spec_SpotOk.f t488 t489).bind fun t498 => (if t498 = true then ((spec_SpotOk.f t490 t491).bind fun t499 => (laws_FnSpotNear.j0 k t495 (!t499) t486 t487 t488 t489 t490 t491)) else (laws_FnSpotNear.j0 k t495 true t486 t487 t488 t489 t490 t491))) = some r := by rw [if_pos rfl] at H; exact H
     clear H
     have H := H1
     clear H1
     replace H := Option.bind_eq_some_iff.mp H
     obtain ⟨t498, A210, H⟩ := H
     try dsimp only at H
     have A21 := Aside0.mk A210
     clear A210
     by_cases c22 : t498 = true
     ·subst c22
      have H1 : ((spec_SpotOk.f t490 t491).bind fun t499 => (laws_FnSpotNear.j0 k t495 (!t499) t486 t487 t488 t489 t490 t491)) = some r := by rw [if_pos rfl] at H; exact H
      clear H
      have H := H1
      clear H1
      replace H := Option.bind_eq_some_iff.mp H
      obtain ⟨t499, A230, H⟩ := H
      try dsimp only at H
      have A23 := Aside0.mk A230
      clear A230
      have H' := Aside0.mk H
      clear H
      have hnb24 := NB492_493.out
      have hnc24 := NB493_492.out
      have hnb25 := NB492_494.out
      have hnc25 := NB494_492.out
      obtain ⟨hcz26_0, hcz26_1, hfz26_0, hfz26_1⟩ := cz2 BK492
      have hnb27 := NB493_494.out
      have hnc27 := NB494_493.out
      obtain ⟨hcz28_0, hcz28_1, hfz28_0, hfz28_1⟩ := cz2 BK493
      obtain ⟨hcz29_0, hcz29_1, hfz29_0, hfz29_1⟩ := cz2 BK494
      go_wp2_with (first | ((with_reducible refine gate_callee (f := 27) rfl ?_); refine gL 29 Try.func27 #[.agg #[.int .i64 t486, .int .i64 t487], .agg #[.int .i64 t488, .int .i64 t489], .agg #[.int .i64 t490, .int .i64 t491]] ?_; (with_reducible refine (spec_SpotNear.calls k t486 t487 t488 t489 t490 t491 t496 _ A17.out).mono ?_); rintro e w30 ⟨rfl, hb⟩; refine ⟨_, rfl, ?_⟩; replace BK492 := bb (bk BK492) hb; replace BK493 := bb (bk BK493) hb; replace BK494 := bb (bk BK494) hb; replace HB := hbb (hzs HB) hb; clear hb; obtain ⟨hcz31_0, hcz31_1, hfz31_0, hfz31_1⟩ := cz2 BK492) | (go_at_call 26; (with_reducible refine (spec_SpotOk.calls t486 t487 true _ A19.out).mono ?_); rintro e w32 ⟨rfl, hb⟩; replace BK492 := bb (bk BK492) hb; replace BK493 := bb (bk BK493) hb; replace BK494 := bb (bk BK494) hb; replace HB := hbb (hzs HB) hb; clear hb; obtain ⟨hcz33_0, hcz33_1, hfz33_0, hfz33_1⟩ := cz2 BK493) | (go_at_call 26; (with_reducible refine (spec_SpotOk.calls t488 t489 true _ A21.out).mono ?_); rintro e w34 ⟨rfl, hb⟩; replace BK492 := bb (bk BK492) hb; replace BK493 := bb (bk BK493) hb; replace BK494 := bb (bk BK494) hb; replace HB := hbb (hzs HB) hb; clear hb; obtain ⟨hcz35_0, hcz35_1, hfz35_0, hfz35_1⟩ := cz2 BK494) | (go_at_call 26; (with_reducible refine (spec_SpotOk.calls t490 t491 t499 _ A23.out).mono ?_); rintro e w36 ⟨rfl, hb⟩; replace BK492 := bb (bk BK492) hb; replace BK493 := bb (bk BK493) hb; replace BK494 := bb (bk BK494) hb; replace HB := hbb (hzs HB) hb; clear hb))
      go_meet
      case rel => exact ⟨_, (!t499), (by first | rfl | (simp; done) | (simp [*]; done)), H', ⟨by first | omega | exact Nat.le_refl _⟩, ⟨bk BK492⟩, ⟨bk BK493⟩, ⟨bk BK494⟩, ⟨hzs HB⟩⟩
     ·replace c22 := Bool.eq_false_iff.mpr c22
      subst c22
      have H1 : (laws_FnSpotNear.j0 k t495 true t486 t487 t488 t489 t490 t491) = some r := by rw [if_neg (show ¬ (false = true) by decide)] at H; exact H
      clear H
      have H := H1
      clear H1
      have H' := Aside0.mk H
      clear H
      have hnb37 := NB492_493.out
      have hnc37 := NB493_492.out
      have hnb38 := NB492_494.out
      have hnc38 := NB494_492.out
      obtain ⟨hcz39_0, hcz39_1, hfz39_0, hfz39_1⟩ := cz2 BK492
      have hnb40 := NB493_494.out
      have hnc40 := NB494_493.out
      obtain ⟨hcz41_0, hcz41_1, hfz41_0, hfz41_1⟩ := cz2 BK493
      obtain ⟨hcz42_0, hcz42_1, hfz42_0, hfz42_1⟩ := cz2 BK494
      go_wp2_with (first | ((with_reducible refine gate_callee (f := 27) rfl ?_); refine gL 29 Try.func27 #[.agg #[.int .i64 t486, .int .i64 t487], .agg #[.int .i64 t488, .int .i64 t489], .agg #[.int .i64 t490, .int .i64 t491]] ?_; (with_reducible refine (spec_SpotNear.calls k t486 t487 t488 t489 t490 t491 t496 _ A17.out).mono ?_); rintro e w43 ⟨rfl, hb⟩; refine ⟨_, rfl, ?_⟩; replace BK492 := bb (bk BK492) hb; replace BK493 := bb (bk BK493) hb; replace BK494 := bb (bk BK494) hb; replace HB := hbb (hzs HB) hb; clear hb; obtain ⟨hcz44_0, hcz44_1, hfz44_0, hfz44_1⟩ := cz2 BK492) | (go_at_call 26; (with_reducible refine (spec_SpotOk.calls t486 t487 true _ A19.out).mono ?_); rintro e w45 ⟨rfl, hb⟩; replace BK492 := bb (bk BK492) hb; replace BK493 := bb (bk BK493) hb; replace BK494 := bb (bk BK494) hb; replace HB := hbb (hzs HB) hb; clear hb; obtain ⟨hcz46_0, hcz46_1, hfz46_0, hfz46_1⟩ := cz2 BK493) | (go_at_call 26; (with_reducible refine (spec_SpotOk.calls t488 t489 false _ A21.out).mono ?_); rintro e w47 ⟨rfl, hb⟩; replace BK492 := bb (bk BK492) hb; replace BK493 := bb (bk BK493) hb; replace BK494 := bb (bk BK494) hb; replace HB := hbb (hzs HB) hb; clear hb))
      go_meet
      case rel => exact ⟨_, (true), (by first | rfl | (simp; done) | (simp [*]; done)), H', ⟨by first | omega | exact Nat.le_refl _⟩, ⟨bk BK492⟩, ⟨bk BK493⟩, ⟨bk BK494⟩, ⟨hzs HB⟩⟩
    ·replace c20 := Bool.eq_false_iff.mpr c20
     subst c20
     have H1 : (laws_FnSpotNear.j0 k t495 true t486 t487 t488 t489 t490 t491) = some r := by rw [if_neg (show ¬ (false = true) by decide)] at H; exact H
     clear H
     have H := H1
     clear H1
     have H' := Aside0.mk H
     clear H
     have hnb48 := NB492_493.out
     have hnc48 := NB493_492.out
     have hnb49 := NB492_494.out
     have hnc49 := NB494_492.out
     obtain ⟨hcz50_0, hcz50_1, hfz50_0, hfz50_1⟩ := cz2 BK492
     have hnb51 := NB493_494.out
     have hnc51 := NB494_493.out
     obtain ⟨hcz52_0, hcz52_1, hfz52_0, hfz52_1⟩ := cz2 BK493
     obtain ⟨hcz53_0, hcz53_1, hfz53_0, hfz53_1⟩ := cz2 BK494
     go_wp2_with (first | ((with_reducible refine gate_callee (f := 27) rfl ?_); refine gL 29 Try.func27 #[.agg #[.int .i64 t486, .int .i64 t487], .agg #[.int .i64 t488, .int .i64 t489], .agg #[.int .i64 t490, .int .i64 t491]] ?_; (with_reducible refine (spec_SpotNear.calls k t486 t487 t488 t489 t490 t491 t496 _ A17.out).mono ?_); rintro e w54 ⟨rfl, hb⟩; refine ⟨_, rfl, ?_⟩; replace BK492 := bb (bk BK492) hb; replace BK493 := bb (bk BK493) hb; replace BK494 := bb (bk BK494) hb; replace HB := hbb (hzs HB) hb; clear hb; obtain ⟨hcz55_0, hcz55_1, hfz55_0, hfz55_1⟩ := cz2 BK492) | (go_at_call 26; (with_reducible refine (spec_SpotOk.calls t486 t487 false _ A19.out).mono ?_); rintro e w56 ⟨rfl, hb⟩; replace BK492 := bb (bk BK492) hb; replace BK493 := bb (bk BK493) hb; replace BK494 := bb (bk BK494) hb; replace HB := hbb (hzs HB) hb; clear hb))
     go_meet
     case rel => exact ⟨_, (true), (by first | rfl | (simp; done) | (simp [*]; done)), H', ⟨by first | omega | exact Nat.le_refl _⟩, ⟨bk BK492⟩, ⟨bk BK493⟩, ⟨bk BK494⟩, ⟨hzs HB⟩⟩
   ·rw [if_neg c18] at H
    have c18b0 : (t495 == t496) = false := beq_eq_false_iff_ne.mpr c18
    have c18b1 : (t495 != t496) = true := bne_iff_ne.mpr c18
    (first | rw [c18b0] | (simp only [i64_w, i32_w]; rw [c18b0]) | skip)
    have H' := Aside0.mk H
    clear H
    have hnb57 := NB492_493.out
    have hnc57 := NB493_492.out
    have hnb58 := NB492_494.out
    have hnc58 := NB494_492.out
    obtain ⟨hcz59_0, hcz59_1, hfz59_0, hfz59_1⟩ := cz2 BK492
    have hnb60 := NB493_494.out
    have hnc60 := NB494_493.out
    obtain ⟨hcz61_0, hcz61_1, hfz61_0, hfz61_1⟩ := cz2 BK493
    obtain ⟨hcz62_0, hcz62_1, hfz62_0, hfz62_1⟩ := cz2 BK494
    go_wp2_with (first | ((with_reducible refine gate_callee (f := 27) rfl ?_); refine gL 29 Try.func27 #[.agg #[.int .i64 t486, .int .i64 t487], .agg #[.int .i64 t488, .int .i64 t489], .agg #[.int .i64 t490, .int .i64 t491]] ?_; (with_reducible refine (spec_SpotNear.calls k t486 t487 t488 t489 t490 t491 t496 _ A17.out).mono ?_); rintro e w63 ⟨rfl, hb⟩; refine ⟨_, rfl, ?_⟩; replace BK492 := bb (bk BK492) hb; replace BK493 := bb (bk BK493) hb; replace BK494 := bb (bk BK494) hb; replace HB := hbb (hzs HB) hb; clear hb))
    go_meet
    case rel => exact ⟨_, (true), (by first | rfl | (simp; done) | (simp [*]; done)), H', ⟨by first | omega | exact Nat.le_refl _⟩, ⟨bk BK492⟩, ⟨bk BK493⟩, ⟨bk BK494⟩, ⟨hzs HB⟩⟩
  case rest =>
   clear HC5
   try clear c1
   try clear c2
   try clear c2b0
   try clear c2b1
   try clear p2
   try clear c3
   try clear c4
   try clear c5
   try clear c6
   try clear c9
   try clear c10
   try clear c11
   try clear c13
   try clear c18
   try clear c18b0
   try clear c18b1
   try clear c20
   try clear c22
   try clear c24
   try clear c25
   try clear c27
   try clear c29
   try clear c34
   try clear c37
   try clear c38
   try clear c40
   try clear c48
   try clear c49
   try clear c51
   try clear c57
   try clear c58
   try clear c60
   try clear hcz12_0 hcz12_1
   try clear hcz14_0 hcz14_1
   try clear hcz15_0 hcz15_1
   try clear hcz26_0 hcz26_1
   try clear hcz28_0 hcz28_1
   try clear hcz29_0 hcz29_1
   try clear hcz31_0 hcz31_1
   try clear hcz33_0 hcz33_1
   try clear hcz35_0 hcz35_1
   try clear hcz39_0 hcz39_1
   try clear hcz41_0 hcz41_1
   try clear hcz42_0 hcz42_1
   try clear hcz44_0 hcz44_1
   try clear hcz46_0 hcz46_1
   try clear hcz50_0 hcz50_1
   try clear hcz52_0 hcz52_1
   try clear hcz53_0 hcz53_1
   try clear hcz55_0 hcz55_1
   try clear hcz59_0 hcz59_1
   try clear hcz61_0 hcz61_1
   try clear hcz62_0 hcz62_1
   try clear hfz12_0 hfz12_1
   try clear hfz14_0 hfz14_1
   try clear hfz15_0 hfz15_1
   try clear hfz26_0 hfz26_1
   try clear hfz28_0 hfz28_1
   try clear hfz29_0 hfz29_1
   try clear hfz31_0 hfz31_1
   try clear hfz33_0 hfz33_1
   try clear hfz35_0 hfz35_1
   try clear hfz39_0 hfz39_1
   try clear hfz41_0 hfz41_1
   try clear hfz42_0 hfz42_1
   try clear hfz44_0 hfz44_1
   try clear hfz46_0 hfz46_1
   try clear hfz50_0 hfz50_1
   try clear hfz52_0 hfz52_1
   try clear hfz53_0 hfz53_1
   try clear hfz55_0 hfz55_1
   try clear hfz59_0 hfz59_1
   try clear hfz61_0 hfz61_1
   try clear hfz62_0 hfz62_1
   obtain ⟨kq, x45_4, rfl, HA, HJ4, BK492, BK493, BK494, HB⟩ := hcut
   cases kq with
   | zero => exact absurd HA.out (by simp [laws_FnSpotNear.j0])
   | succ kj4 =>
    have H := HA.out
    clear HA
    simp only [laws_FnSpotNear.j0] at H
    by_cases c64 : x45_4 = true
    ·subst c64
     have H1 : ((spec_SpotNear.f kj4 t486 t487 t488 t489 t490 t491).bind fun t500 => (some (t495 == t500))) = some r := by rw [if_pos rfl] at H; exact H
     clear H
     have H := H1
     clear H1
     replace H := Option.bind_eq_some_iff.mp H
     obtain ⟨t500, A650, H⟩ := H
     try dsimp only at H
     have A65 := Aside0.mk A650
     clear A650
     obtain rfl := Option.some.inj H
     have hnb66 := NB492_493.out
     have hnc66 := NB493_492.out
     have hnb67 := NB492_494.out
     have hnc67 := NB494_492.out
     obtain ⟨hcz68_0, hcz68_1, hfz68_0, hfz68_1⟩ := cz2 BK492
     have hnb69 := NB493_494.out
     have hnc69 := NB494_493.out
     obtain ⟨hcz70_0, hcz70_1, hfz70_0, hfz70_1⟩ := cz2 BK493
     obtain ⟨hcz71_0, hcz71_1, hfz71_0, hfz71_1⟩ := cz2 BK494
     go_wp2_with (first | ((with_reducible refine gate_callee (f := 27) rfl ?_); refine gL 50 Try.func27 #[.agg #[.int .i64 t486, .int .i64 t487], .agg #[.int .i64 t488, .int .i64 t489], .agg #[.int .i64 t490, .int .i64 t491]] ?_; (with_reducible refine (spec_SpotNear.calls kj4 t486 t487 t488 t489 t490 t491 t500 _ A65.out).mono ?_); rintro e w72 ⟨rfl, hb⟩; refine ⟨_, rfl, ?_⟩; replace BK492 := bb (bk BK492) hb; replace BK493 := bb (bk BK493) hb; replace BK494 := bb (bk BK494) hb; replace HB := hbb (hzs HB) hb; clear hb))
     go_ret
     exact ⟨by first | rfl | (simp [errW_none, errW_some] <;> rfl) | (simp [*, errW_none, errW_some] <;> rfl), hzs HB⟩
    ·replace c64 := Bool.eq_false_iff.mpr c64
     subst c64
     have H1 : ((impl_SpotDist.f kj4 t486 t487 t488 t489).bind fun bt501 => ((impl_SpotDist.f kj4 t486 t487 t490 t491).bind fun bt505 => ((impl_SpotNear.f kj4 t486 t487 t490 t491 t488 t489).bind fun t509 => (if t495 = 1 then (if bt501.1 ≤ bt505.2.1 then (if t509 = 2 then (if t495 = 2 then (if bt505.1 ≤ bt501.2.1 then ((impl_SpotNear.f kj4 t486 t487 t488 t489 t488 t489).bind fun t510 => (some (t510 == 2))) else (some false)) else ((impl_SpotNear.f kj4 t486 t487 t488 t489 t488 t489).bind fun t511 => (some (t511 == 2)))) else (some false)) else (some false)) else (if t495 = 2 then (if bt505.1 ≤ bt501.2.1 then ((impl_SpotNear.f kj4 t486 t487 t488 t489 t488 t489).bind fun t512 => (some (t512 == 2))) else (some false)) else ((impl_SpotNear.f kj4 t486 t487 t488 t489 t488 t489).bind fun t513 => (some (t513 == 2)))))))) = some r := by rw [if_neg (show ¬ (false = true) by decide)] at H; exact H
     clear H
     have H := H1
     clear H1
     replace H := Option.bind_eq_some_iff.mp H
     obtain ⟨⟨t501, t502, t503⟩, A730, H⟩ := H
     try dsimp only at H
     have A73 := Aside0.mk A730
     clear A730
     replace H := Option.bind_eq_some_iff.mp H
     obtain ⟨⟨t505, t506, t507⟩, A740, H⟩ := H
     try dsimp only at H
     have A74 := Aside0.mk A740
     clear A740
     replace H := Option.bind_eq_some_iff.mp H
     obtain ⟨t509, A750, H⟩ := H
     try dsimp only at H
     have A75 := Aside0.mk A750
     clear A750
     by_cases c76 : t495 = 1
     ·rw [if_pos c76] at H
      have c76b0 : (t495 == 1) = true := beq_iff_eq.mpr c76
      have c76b1 : (t495 != 1) = false := bne_eq_false_iff_eq.mpr c76
      clear c76
      by_cases c77 : t501 ≤ t506
      ·rw [if_pos c77] at H
       have c77b0 : decide (t501 ≤ t506) = true := decide_eq_true c77
       clear c77
       by_cases c78 : t509 = 2
       ·rw [if_pos c78] at H
        have c78b0 : (t509 == 2) = true := beq_iff_eq.mpr c78
        have c78b1 : (t509 != 2) = false := bne_eq_false_iff_eq.mpr c78
        clear c78
        by_cases c79 : t495 = 2
        ·rw [if_pos c79] at H
         have c79b0 : (t495 == 2) = true := beq_iff_eq.mpr c79
         have c79b1 : (t495 != 2) = false := bne_eq_false_iff_eq.mpr c79
         clear c79
         by_cases c80 : t505 ≤ t502
         ·rw [if_pos c80] at H
          have c80b0 : decide (t505 ≤ t502) = true := decide_eq_true c80
          clear c80
          replace H := Option.bind_eq_some_iff.mp H
          obtain ⟨t510, A810, H⟩ := H
          try dsimp only at H
          have A81 := Aside0.mk A810
          clear A810
          obtain rfl := Option.some.inj H
          have hnb82 := NB492_493.out
          have hnc82 := NB493_492.out
          have hnb83 := NB492_494.out
          have hnc83 := NB494_492.out
          obtain ⟨hcz84_0, hcz84_1, hfz84_0, hfz84_1⟩ := cz2 BK492
          have hnb85 := NB493_494.out
          have hnc85 := NB494_493.out
          obtain ⟨hcz86_0, hcz86_1, hfz86_0, hfz86_1⟩ := cz2 BK493
          go_wp2_with (first | ((with_reducible refine gate_callee (f := 20) rfl ?_); refine gL 55 Try.func20 #[.agg #[.int .i64 t486, .int .i64 t487], .agg #[.int .i64 t488, .int .i64 t489]] ?_; (with_reducible refine (impl_SpotDist.calls kj4 t486 t487 t488 t489 t501 t502 t503 _ A73.out).mono ?_); rintro e w87 ⟨rfl, hb⟩; refine ⟨_, rfl, ?_⟩; replace BK492 := bb (bk BK492) hb; replace BK493 := bb (bk BK493) hb; replace BK494 := bb (bk BK494) hb; replace HB := hbb (hzs HB) hb; clear hb) | ((with_reducible refine gate_dst (N := 7) rfl ?_); refine bE 7 #[.int .i64 0, .int .i64 0] 29 ?_; intro gb504 hg w88 hbox hb; have BK504 := Aside0.mk (hbox); have GE504 := gw hg (hzs HB); have GW504 := GE504; have NB492_504 := nl hg (bk BK492); have NB504_492 := ng hg (bk BK492); have NB493_504 := nl hg (bk BK493); have NB504_493 := ng hg (bk BK493); have NB494_504 := nl hg (bk BK494); have NB504_494 := ng hg (bk BK494); replace BK492 := bb (bk BK492) hb; replace BK493 := bb (bk BK493) hb; replace BK494 := bb (bk BK494) hb; replace HB := hbb (hzs HB) hb; clear hb hbox hg; have hnb89 := NB504_492.out; have hnc89 := NB492_504.out; have hnb90 := NB504_493.out; have hnc90 := NB493_504.out; have hnb91 := NB504_494.out; have hnc91 := NB494_504.out; obtain ⟨hcz92_0, hcz92_1, hfz92_0, hfz92_1⟩ := cz2 BK504; obtain ⟨hcz93_0, hcz93_1, hfz93_0, hfz93_1⟩ := cz2 BK492; obtain ⟨hcz94_0, hcz94_1, hfz94_0, hfz94_1⟩ := cz2 BK494) | ((with_reducible refine gate_callee (f := 20) rfl ?_); refine gL 61 Try.func20 #[.agg #[.int .i64 t486, .int .i64 t487], .agg #[.int .i64 t490, .int .i64 t491]] ?_; (with_reducible refine (impl_SpotDist.calls kj4 t486 t487 t490 t491 t505 t506 t507 _ A74.out).mono ?_); rintro e w95 ⟨rfl, hb⟩; refine ⟨_, rfl, ?_⟩; replace BK492 := bb (bk1 BK492 NB492_504) hb; replace BK493 := bb (bk1 BK493 NB493_504) hb; replace BK494 := bb (bk1 BK494 NB494_504) hb; replace BK504 := bb (o := .cells #[.int .i64 t501, .int .i64 t502] 29 (0, 0)) (bkp BK504) hb; replace HB := hbb (hzs HB) hb; clear hb) | ((with_reducible refine gate_dst (N := 9) rfl ?_); refine bE 9 #[.int .i64 0, .int .i64 0] 29 ?_; intro gb508 hg w96 hbox hb; have BK508 := Aside0.mk (hbox); have GE508 := gw hg (hzs HB); have GW508 := GE508; have NB492_508 := nl hg (bk BK492); have NB508_492 := ng hg (bk BK492); have NB493_508 := nl hg (bk BK493); have NB508_493 := ng hg (bk BK493); have NB494_508 := nl hg (bk BK494); have NB508_494 := ng hg (bk BK494); have NB504_508 := nl hg (bk BK504); have NB508_504 := ng hg (bk BK504); replace BK492 := bb (bk BK492) hb; replace BK493 := bb (bk BK493) hb; replace BK494 := bb (bk BK494) hb; replace BK504 := bb (bk BK504) hb; replace HB := hbb (hzs HB) hb; clear hb hbox hg; have hnb97 := NB508_492.out; have hnc97 := NB492_508.out; have hnb98 := NB508_493.out; have hnc98 := NB493_508.out; have hnb99 := NB508_494.out; have hnc99 := NB494_508.out; have hnb100 := NB508_504.out; have hnc100 := NB504_508.out; obtain ⟨hcz101_0, hcz101_1, hfz101_0, hfz101_1⟩ := cz2 BK508; obtain ⟨hcz102_0, hcz102_1, hfz102_0, hfz102_1⟩ := cz2 BK492; obtain ⟨hcz103_0, hcz103_1, hfz103_0, hfz103_1⟩ := cz2 BK494; obtain ⟨hcz104_0, hcz104_1, hfz104_0, hfz104_1⟩ := cz2 BK493) | ((with_reducible refine gate_callee (f := 29) rfl ?_); refine gL 67 Try.func29 #[.agg #[.int .i64 t486, .int .i64 t487], .agg #[.int .i64 t490, .int .i64 t491], .agg #[.int .i64 t488, .int .i64 t489]] ?_; (with_reducible refine (impl_SpotNear.calls kj4 t486 t487 t490 t491 t488 t489 t509 _ A75.out).mono ?_); rintro e w105 ⟨rfl, hb⟩; refine ⟨_, rfl, ?_⟩; replace BK492 := bb (bk1 BK492 NB492_508) hb; replace BK493 := bb (bk1 BK493 NB493_508) hb; replace BK494 := bb (bk1 BK494 NB494_508) hb; replace BK504 := bb (bk1 BK504 NB504_508) hb; replace BK508 := bb (o := .cells #[.int .i64 t505, .int .i64 t506] 29 (0, 0)) (bkp BK508) hb; replace HB := hbb (hzs HB) hb; clear hb; obtain ⟨hcz106_0, hcz106_1, hfz106_0, hfz106_1⟩ := cz2 BK504; obtain ⟨hcz107_0, hcz107_1, hfz107_0, hfz107_1⟩ := cz2 BK508; obtain ⟨hcz108_0, hcz108_1, hfz108_0, hfz108_1⟩ := cz2 BK492; obtain ⟨hcz109_0, hcz109_1, hfz109_0, hfz109_1⟩ := cz2 BK493) | (go_at_call 29; (with_reducible refine (impl_SpotNear.calls kj4 t486 t487 t488 t489 t488 t489 t510 _ A81.out).mono ?_); rintro e w110 ⟨rfl, hb⟩; replace BK492 := bb (bk BK492) hb; replace BK493 := bb (bk BK493) hb; replace BK494 := bb (bk BK494) hb; replace BK504 := bb (bk BK504) hb; replace BK508 := bb (bk BK508) hb; replace HB := hbb (hzs HB) hb; clear hb))
          go_ret
          exact ⟨by first | rfl | (simp [errW_none, errW_some] <;> rfl) | (simp [*, errW_none, errW_some] <;> rfl), hzs HB⟩
         ·rw [if_neg c80] at H
          have c80b0 : decide (t505 ≤ t502) = false := decide_eq_false c80
          clear c80
          obtain rfl := Option.some.inj H
          have hnb111 := NB492_493.out
          have hnc111 := NB493_492.out
          have hnb112 := NB492_494.out
          have hnc112 := NB494_492.out
          obtain ⟨hcz113_0, hcz113_1, hfz113_0, hfz113_1⟩ := cz2 BK492
          have hnb114 := NB493_494.out
          have hnc114 := NB494_493.out
          obtain ⟨hcz115_0, hcz115_1, hfz115_0, hfz115_1⟩ := cz2 BK493
          go_wp2_with (first | ((with_reducible refine gate_callee (f := 20) rfl ?_); refine gL 55 Try.func20 #[.agg #[.int .i64 t486, .int .i64 t487], .agg #[.int .i64 t488, .int .i64 t489]] ?_; (with_reducible refine (impl_SpotDist.calls kj4 t486 t487 t488 t489 t501 t502 t503 _ A73.out).mono ?_); rintro e w116 ⟨rfl, hb⟩; refine ⟨_, rfl, ?_⟩; replace BK492 := bb (bk BK492) hb; replace BK493 := bb (bk BK493) hb; replace BK494 := bb (bk BK494) hb; replace HB := hbb (hzs HB) hb; clear hb) | ((with_reducible refine gate_dst (N := 7) rfl ?_); refine bE 7 #[.int .i64 0, .int .i64 0] 29 ?_; intro gb504 hg w117 hbox hb; have BK504 := Aside0.mk (hbox); have GE504 := gw hg (hzs HB); have GW504 := GE504; have NB492_504 := nl hg (bk BK492); have NB504_492 := ng hg (bk BK492); have NB493_504 := nl hg (bk BK493); have NB504_493 := ng hg (bk BK493); have NB494_504 := nl hg (bk BK494); have NB504_494 := ng hg (bk BK494); replace BK492 := bb (bk BK492) hb; replace BK493 := bb (bk BK493) hb; replace BK494 := bb (bk BK494) hb; replace HB := hbb (hzs HB) hb; clear hb hbox hg; have hnb118 := NB504_492.out; have hnc118 := NB492_504.out; have hnb119 := NB504_493.out; have hnc119 := NB493_504.out; have hnb120 := NB504_494.out; have hnc120 := NB494_504.out; obtain ⟨hcz121_0, hcz121_1, hfz121_0, hfz121_1⟩ := cz2 BK504; obtain ⟨hcz122_0, hcz122_1, hfz122_0, hfz122_1⟩ := cz2 BK492; obtain ⟨hcz123_0, hcz123_1, hfz123_0, hfz123_1⟩ := cz2 BK494) | ((with_reducible refine gate_callee (f := 20) rfl ?_); refine gL 61 Try.func20 #[.agg #[.int .i64 t486, .int .i64 t487], .agg #[.int .i64 t490, .int .i64 t491]] ?_; (with_reducible refine (impl_SpotDist.calls kj4 t486 t487 t490 t491 t505 t506 t507 _ A74.out).mono ?_); rintro e w124 ⟨rfl, hb⟩; refine ⟨_, rfl, ?_⟩; replace BK492 := bb (bk1 BK492 NB492_504) hb; replace BK493 := bb (bk1 BK493 NB493_504) hb; replace BK494 := bb (bk1 BK494 NB494_504) hb; replace BK504 := bb (o := .cells #[.int .i64 t501, .int .i64 t502] 29 (0, 0)) (bkp BK504) hb; replace HB := hbb (hzs HB) hb; clear hb) | ((with_reducible refine gate_dst (N := 9) rfl ?_); refine bE 9 #[.int .i64 0, .int .i64 0] 29 ?_; intro gb508 hg w125 hbox hb; have BK508 := Aside0.mk (hbox); have GE508 := gw hg (hzs HB); have GW508 := GE508; have NB492_508 := nl hg (bk BK492); have NB508_492 := ng hg (bk BK492); have NB493_508 := nl hg (bk BK493); have NB508_493 := ng hg (bk BK493); have NB494_508 := nl hg (bk BK494); have NB508_494 := ng hg (bk BK494); have NB504_508 := nl hg (bk BK504); have NB508_504 := ng hg (bk BK504); replace BK492 := bb (bk BK492) hb; replace BK493 := bb (bk BK493) hb; replace BK494 := bb (bk BK494) hb; replace BK504 := bb (bk BK504) hb; replace HB := hbb (hzs HB) hb; clear hb hbox hg; have hnb126 := NB508_492.out; have hnc126 := NB492_508.out; have hnb127 := NB508_493.out; have hnc127 := NB493_508.out; have hnb128 := NB508_494.out; have hnc128 := NB494_508.out; have hnb129 := NB508_504.out; have hnc129 := NB504_508.out; obtain ⟨hcz130_0, hcz130_1, hfz130_0, hfz130_1⟩ := cz2 BK508; obtain ⟨hcz131_0, hcz131_1, hfz131_0, hfz131_1⟩ := cz2 BK492; obtain ⟨hcz132_0, hcz132_1, hfz132_0, hfz132_1⟩ := cz2 BK494; obtain ⟨hcz133_0, hcz133_1, hfz133_0, hfz133_1⟩ := cz2 BK493) | ((with_reducible refine gate_callee (f := 29) rfl ?_); refine gL 67 Try.func29 #[.agg #[.int .i64 t486, .int .i64 t487], .agg #[.int .i64 t490, .int .i64 t491], .agg #[.int .i64 t488, .int .i64 t489]] ?_; (with_reducible refine (impl_SpotNear.calls kj4 t486 t487 t490 t491 t488 t489 t509 _ A75.out).mono ?_); rintro e w134 ⟨rfl, hb⟩; refine ⟨_, rfl, ?_⟩; replace BK492 := bb (bk1 BK492 NB492_508) hb; replace BK493 := bb (bk1 BK493 NB493_508) hb; replace BK494 := bb (bk1 BK494 NB494_508) hb; replace BK504 := bb (bk1 BK504 NB504_508) hb; replace BK508 := bb (o := .cells #[.int .i64 t505, .int .i64 t506] 29 (0, 0)) (bkp BK508) hb; replace HB := hbb (hzs HB) hb; clear hb; obtain ⟨hcz135_0, hcz135_1, hfz135_0, hfz135_1⟩ := cz2 BK504; obtain ⟨hcz136_0, hcz136_1, hfz136_0, hfz136_1⟩ := cz2 BK508))
          go_ret
          exact ⟨by first | rfl | (simp [errW_none, errW_some] <;> rfl) | (simp [*, errW_none, errW_some] <;> rfl), hzs HB⟩
        ·rw [if_neg c79] at H
         have c79b0 : (t495 == 2) = false := beq_eq_false_iff_ne.mpr c79
         have c79b1 : (t495 != 2) = true := bne_iff_ne.mpr c79
         replace H := Option.bind_eq_some_iff.mp H
         obtain ⟨t511, A1370, H⟩ := H
         try dsimp only at H
         have A137 := Aside0.mk A1370
         clear A1370
         obtain rfl := Option.some.inj H
         have hnb138 := NB492_493.out
         have hnc138 := NB493_492.out
         have hnb139 := NB492_494.out
         have hnc139 := NB494_492.out
         obtain ⟨hcz140_0, hcz140_1, hfz140_0, hfz140_1⟩ := cz2 BK492
         have hnb141 := NB493_494.out
         have hnc141 := NB494_493.out
         obtain ⟨hcz142_0, hcz142_1, hfz142_0, hfz142_1⟩ := cz2 BK493
         go_wp2_with (first | ((with_reducible refine gate_callee (f := 20) rfl ?_); refine gL 55 Try.func20 #[.agg #[.int .i64 t486, .int .i64 t487], .agg #[.int .i64 t488, .int .i64 t489]] ?_; (with_reducible refine (impl_SpotDist.calls kj4 t486 t487 t488 t489 t501 t502 t503 _ A73.out).mono ?_); rintro e w143 ⟨rfl, hb⟩; refine ⟨_, rfl, ?_⟩; replace BK492 := bb (bk BK492) hb; replace BK493 := bb (bk BK493) hb; replace BK494 := bb (bk BK494) hb; replace HB := hbb (hzs HB) hb; clear hb) | ((with_reducible refine gate_dst (N := 7) rfl ?_); refine bE 7 #[.int .i64 0, .int .i64 0] 29 ?_; intro gb504 hg w144 hbox hb; have BK504 := Aside0.mk (hbox); have GE504 := gw hg (hzs HB); have GW504 := GE504; have NB492_504 := nl hg (bk BK492); have NB504_492 := ng hg (bk BK492); have NB493_504 := nl hg (bk BK493); have NB504_493 := ng hg (bk BK493); have NB494_504 := nl hg (bk BK494); have NB504_494 := ng hg (bk BK494); replace BK492 := bb (bk BK492) hb; replace BK493 := bb (bk BK493) hb; replace BK494 := bb (bk BK494) hb; replace HB := hbb (hzs HB) hb; clear hb hbox hg; have hnb145 := NB504_492.out; have hnc145 := NB492_504.out; have hnb146 := NB504_493.out; have hnc146 := NB493_504.out; have hnb147 := NB504_494.out; have hnc147 := NB494_504.out; obtain ⟨hcz148_0, hcz148_1, hfz148_0, hfz148_1⟩ := cz2 BK504; obtain ⟨hcz149_0, hcz149_1, hfz149_0, hfz149_1⟩ := cz2 BK492; obtain ⟨hcz150_0, hcz150_1, hfz150_0, hfz150_1⟩ := cz2 BK494) | ((with_reducible refine gate_callee (f := 20) rfl ?_); refine gL 61 Try.func20 #[.agg #[.int .i64 t486, .int .i64 t487], .agg #[.int .i64 t490, .int .i64 t491]] ?_; (with_reducible refine (impl_SpotDist.calls kj4 t486 t487 t490 t491 t505 t506 t507 _ A74.out).mono ?_); rintro e w151 ⟨rfl, hb⟩; refine ⟨_, rfl, ?_⟩; replace BK492 := bb (bk1 BK492 NB492_504) hb; replace BK493 := bb (bk1 BK493 NB493_504) hb; replace BK494 := bb (bk1 BK494 NB494_504) hb; replace BK504 := bb (o := .cells #[.int .i64 t501, .int .i64 t502] 29 (0, 0)) (bkp BK504) hb; replace HB := hbb (hzs HB) hb; clear hb) | ((with_reducible refine gate_dst (N := 9) rfl ?_); refine bE 9 #[.int .i64 0, .int .i64 0] 29 ?_; intro gb508 hg w152 hbox hb; have BK508 := Aside0.mk (hbox); have GE508 := gw hg (hzs HB); have GW508 := GE508; have NB492_508 := nl hg (bk BK492); have NB508_492 := ng hg (bk BK492); have NB493_508 := nl hg (bk BK493); have NB508_493 := ng hg (bk BK493); have NB494_508 := nl hg (bk BK494); have NB508_494 := ng hg (bk BK494); have NB504_508 := nl hg (bk BK504); have NB508_504 := ng hg (bk BK504); replace BK492 := bb (bk BK492) hb; replace BK493 := bb (bk BK493) hb; replace BK494 := bb (bk BK494) hb; replace BK504 := bb (bk BK504) hb; replace HB := hbb (hzs HB) hb; clear hb hbox hg; have hnb153 := NB508_492.out; have hnc153 := NB492_508.out; have hnb154 := NB508_493.out; have hnc154 := NB493_508.out; have hnb155 := NB508_494.out; have hnc155 := NB494_508.out; have hnb156 := NB508_504.out; have hnc156 := NB504_508.out; obtain ⟨hcz157_0, hcz157_1, hfz157_0, hfz157_1⟩ := cz2 BK508; obtain ⟨hcz158_0, hcz158_1, hfz158_0, hfz158_1⟩ := cz2 BK492; obtain ⟨hcz159_0, hcz159_1, hfz159_0, hfz159_1⟩ := cz2 BK494; obtain ⟨hcz160_0, hcz160_1, hfz160_0, hfz160_1⟩ := cz2 BK493) | ((with_reducible refine gate_callee (f := 29) rfl ?_); refine gL 67 Try.func29 #[.agg #[.int .i64 t486, .int .i64 t487], .agg #[.int .i64 t490, .int .i64 t491], .agg #[.int .i64 t488, .int .i64 t489]] ?_; (with_reducible refine (impl_SpotNear.calls kj4 t486 t487 t490 t491 t488 t489 t509 _ A75.out).mono ?_); rintro e w161 ⟨rfl, hb⟩; refine ⟨_, rfl, ?_⟩; replace BK492 := bb (bk1 BK492 NB492_508) hb; replace BK493 := bb (bk1 BK493 NB493_508) hb; replace BK494 := bb (bk1 BK494 NB494_508) hb; replace BK504 := bb (bk1 BK504 NB504_508) hb; replace BK508 := bb (o := .cells #[.int .i64 t505, .int .i64 t506] 29 (0, 0)) (bkp BK508) hb; replace HB := hbb (hzs HB) hb; clear hb; obtain ⟨hcz162_0, hcz162_1, hfz162_0, hfz162_1⟩ := cz2 BK504; obtain ⟨hcz163_0, hcz163_1, hfz163_0, hfz163_1⟩ := cz2 BK508; obtain ⟨hcz164_0, hcz164_1, hfz164_0, hfz164_1⟩ := cz2 BK492; obtain ⟨hcz165_0, hcz165_1, hfz165_0, hfz165_1⟩ := cz2 BK493) | (go_at_call 29; (with_reducible refine (impl_SpotNear.calls kj4 t486 t487 t488 t489 t488 t489 t511 _ A137.out).mono ?_); rintro e w166 ⟨rfl, hb⟩; replace BK492 := bb (bk BK492) hb; replace BK493 := bb (bk BK493) hb; replace BK494 := bb (bk BK494) hb; replace BK504 := bb (bk BK504) hb; replace BK508 := bb (bk BK508) hb; replace HB := hbb (hzs HB) hb; clear hb))
         go_ret
         exact ⟨by first | rfl | (simp [errW_none, errW_some] <;> rfl) | (simp [*, errW_none, errW_some] <;> rfl), hzs HB⟩
       ·rw [if_neg c78] at H
        have c78b0 : (t509 == 2) = false := beq_eq_false_iff_ne.mpr c78
        have c78b1 : (t509 != 2) = true := bne_iff_ne.mpr c78
        obtain rfl := Option.some.inj H
        have hnb167 := NB492_493.out
        have hnc167 := NB493_492.out
        have hnb168 := NB492_494.out
        have hnc168 := NB494_492.out
        obtain ⟨hcz169_0, hcz169_1, hfz169_0, hfz169_1⟩ := cz2 BK492
        have hnb170 := NB493_494.out
        have hnc170 := NB494_493.out
        obtain ⟨hcz171_0, hcz171_1, hfz171_0, hfz171_1⟩ := cz2 BK493
        go_wp2_with (first | ((with_reducible refine gate_callee (f := 20) rfl ?_); refine gL 55 Try.func20 #[.agg #[.int .i64 t486, .int .i64 t487], .agg #[.int .i64 t488, .int .i64 t489]] ?_; (with_reducible refine (impl_SpotDist.calls kj4 t486 t487 t488 t489 t501 t502 t503 _ A73.out).mono ?_); rintro e w172 ⟨rfl, hb⟩; refine ⟨_, rfl, ?_⟩; replace BK492 := bb (bk BK492) hb; replace BK493 := bb (bk BK493) hb; replace BK494 := bb (bk BK494) hb; replace HB := hbb (hzs HB) hb; clear hb) | ((with_reducible refine gate_dst (N := 7) rfl ?_); refine bE 7 #[.int .i64 0, .int .i64 0] 29 ?_; intro gb504 hg w173 hbox hb; have BK504 := Aside0.mk (hbox); have GE504 := gw hg (hzs HB); have GW504 := GE504; have NB492_504 := nl hg (bk BK492); have NB504_492 := ng hg (bk BK492); have NB493_504 := nl hg (bk BK493); have NB504_493 := ng hg (bk BK493); have NB494_504 := nl hg (bk BK494); have NB504_494 := ng hg (bk BK494); replace BK492 := bb (bk BK492) hb; replace BK493 := bb (bk BK493) hb; replace BK494 := bb (bk BK494) hb; replace HB := hbb (hzs HB) hb; clear hb hbox hg; have hnb174 := NB504_492.out; have hnc174 := NB492_504.out; have hnb175 := NB504_493.out; have hnc175 := NB493_504.out; have hnb176 := NB504_494.out; have hnc176 := NB494_504.out; obtain ⟨hcz177_0, hcz177_1, hfz177_0, hfz177_1⟩ := cz2 BK504; obtain ⟨hcz178_0, hcz178_1, hfz178_0, hfz178_1⟩ := cz2 BK492; obtain ⟨hcz179_0, hcz179_1, hfz179_0, hfz179_1⟩ := cz2 BK494) | ((with_reducible refine gate_callee (f := 20) rfl ?_); refine gL 61 Try.func20 #[.agg #[.int .i64 t486, .int .i64 t487], .agg #[.int .i64 t490, .int .i64 t491]] ?_; (with_reducible refine (impl_SpotDist.calls kj4 t486 t487 t490 t491 t505 t506 t507 _ A74.out).mono ?_); rintro e w180 ⟨rfl, hb⟩; refine ⟨_, rfl, ?_⟩; replace BK492 := bb (bk1 BK492 NB492_504) hb; replace BK493 := bb (bk1 BK493 NB493_504) hb; replace BK494 := bb (bk1 BK494 NB494_504) hb; replace BK504 := bb (o := .cells #[.int .i64 t501, .int .i64 t502] 29 (0, 0)) (bkp BK504) hb; replace HB := hbb (hzs HB) hb; clear hb) | ((with_reducible refine gate_dst (N := 9) rfl ?_); refine bE 9 #[.int .i64 0, .int .i64 0] 29 ?_; intro gb508 hg w181 hbox hb; have BK508 := Aside0.mk (hbox); have GE508 := gw hg (hzs HB); have GW508 := GE508; have NB492_508 := nl hg (bk BK492); have NB508_492 := ng hg (bk BK492); have NB493_508 := nl hg (bk BK493); have NB508_493 := ng hg (bk BK493); have NB494_508 := nl hg (bk BK494); have NB508_494 := ng hg (bk BK494); have NB504_508 := nl hg (bk BK504); have NB508_504 := ng hg (bk BK504); replace BK492 := bb (bk BK492) hb; replace BK493 := bb (bk BK493) hb; replace BK494 := bb (bk BK494) hb; replace BK504 := bb (bk BK504) hb; replace HB := hbb (hzs HB) hb; clear hb hbox hg; have hnb182 := NB508_492.out; have hnc182 := NB492_508.out; have hnb183 := NB508_493.out; have hnc183 := NB493_508.out; have hnb184 := NB508_494.out; have hnc184 := NB494_508.out; have hnb185 := NB508_504.out; have hnc185 := NB504_508.out; obtain ⟨hcz186_0, hcz186_1, hfz186_0, hfz186_1⟩ := cz2 BK508; obtain ⟨hcz187_0, hcz187_1, hfz187_0, hfz187_1⟩ := cz2 BK492; obtain ⟨hcz188_0, hcz188_1, hfz188_0, hfz188_1⟩ := cz2 BK494; obtain ⟨hcz189_0, hcz189_1, hfz189_0, hfz189_1⟩ := cz2 BK493) | ((with_reducible refine gate_callee (f := 29) rfl ?_); refine gL 67 Try.func29 #[.agg #[.int .i64 t486, .int .i64 t487], .agg #[.int .i64 t490, .int .i64 t491], .agg #[.int .i64 t488, .int .i64 t489]] ?_; (with_reducible refine (impl_SpotNear.calls kj4 t486 t487 t490 t491 t488 t489 t509 _ A75.out).mono ?_); rintro e w190 ⟨rfl, hb⟩; refine ⟨_, rfl, ?_⟩; replace BK492 := bb (bk1 BK492 NB492_508) hb; replace BK493 := bb (bk1 BK493 NB493_508) hb; replace BK494 := bb (bk1 BK494 NB494_508) hb; replace BK504 := bb (bk1 BK504 NB504_508) hb; replace BK508 := bb (o := .cells #[.int .i64 t505, .int .i64 t506] 29 (0, 0)) (bkp BK508) hb; replace HB := hbb (hzs HB) hb; clear hb; obtain ⟨hcz191_0, hcz191_1, hfz191_0, hfz191_1⟩ := cz2 BK504; obtain ⟨hcz192_0, hcz192_1, hfz192_0, hfz192_1⟩ := cz2 BK508))
        go_ret
        exact ⟨by first | rfl | (simp [errW_none, errW_some] <;> rfl) | (simp [*, errW_none, errW_some] <;> rfl), hzs HB⟩
      ·rw [if_neg c77] at H
       have c77b0 : decide (t501 ≤ t506) = false := decide_eq_false c77
       clear c77
       obtain rfl := Option.some.inj H
       have hnb193 := NB492_493.out
       have hnc193 := NB493_492.out
       have hnb194 := NB492_494.out
       have hnc194 := NB494_492.out
       obtain ⟨hcz195_0, hcz195_1, hfz195_0, hfz195_1⟩ := cz2 BK492
       have hnb196 := NB493_494.out
       have hnc196 := NB494_493.out
       obtain ⟨hcz197_0, hcz197_1, hfz197_0, hfz197_1⟩ := cz2 BK493
       go_wp2_with (first | ((with_reducible refine gate_callee (f := 20) rfl ?_); refine gL 55 Try.func20 #[.agg #[.int .i64 t486, .int .i64 t487], .agg #[.int .i64 t488, .int .i64 t489]] ?_; (with_reducible refine (impl_SpotDist.calls kj4 t486 t487 t488 t489 t501 t502 t503 _ A73.out).mono ?_); rintro e w198 ⟨rfl, hb⟩; refine ⟨_, rfl, ?_⟩; replace BK492 := bb (bk BK492) hb; replace BK493 := bb (bk BK493) hb; replace BK494 := bb (bk BK494) hb; replace HB := hbb (hzs HB) hb; clear hb) | ((with_reducible refine gate_dst (N := 7) rfl ?_); refine bE 7 #[.int .i64 0, .int .i64 0] 29 ?_; intro gb504 hg w199 hbox hb; have BK504 := Aside0.mk (hbox); have GE504 := gw hg (hzs HB); have GW504 := GE504; have NB492_504 := nl hg (bk BK492); have NB504_492 := ng hg (bk BK492); have NB493_504 := nl hg (bk BK493); have NB504_493 := ng hg (bk BK493); have NB494_504 := nl hg (bk BK494); have NB504_494 := ng hg (bk BK494); replace BK492 := bb (bk BK492) hb; replace BK493 := bb (bk BK493) hb; replace BK494 := bb (bk BK494) hb; replace HB := hbb (hzs HB) hb; clear hb hbox hg; have hnb200 := NB504_492.out; have hnc200 := NB492_504.out; have hnb201 := NB504_493.out; have hnc201 := NB493_504.out; have hnb202 := NB504_494.out; have hnc202 := NB494_504.out; obtain ⟨hcz203_0, hcz203_1, hfz203_0, hfz203_1⟩ := cz2 BK504; obtain ⟨hcz204_0, hcz204_1, hfz204_0, hfz204_1⟩ := cz2 BK492; obtain ⟨hcz205_0, hcz205_1, hfz205_0, hfz205_1⟩ := cz2 BK494) | ((with_reducible refine gate_callee (f := 20) rfl ?_); refine gL 61 Try.func20 #[.agg #[.int .i64 t486, .int .i64 t487], .agg #[.int .i64 t490, .int .i64 t491]] ?_; (with_reducible refine (impl_SpotDist.calls kj4 t486 t487 t490 t491 t505 t506 t507 _ A74.out).mono ?_); rintro e w206 ⟨rfl, hb⟩; refine ⟨_, rfl, ?_⟩; replace BK492 := bb (bk1 BK492 NB492_504) hb; replace BK493 := bb (bk1 BK493 NB493_504) hb; replace BK494 := bb (bk1 BK494 NB494_504) hb; replace BK504 := bb (o := .cells #[.int .i64 t501, .int .i64 t502] 29 (0, 0)) (bkp BK504) hb; replace HB := hbb (hzs HB) hb; clear hb) | ((with_reducible refine gate_dst (N := 9) rfl ?_); refine bE 9 #[.int .i64 0, .int .i64 0] 29 ?_; intro gb508 hg w207 hbox hb; have BK508 := Aside0.mk (hbox); have GE508 := gw hg (hzs HB); have GW508 := GE508; have NB492_508 := nl hg (bk BK492); have NB508_492 := ng hg (bk BK492); have NB493_508 := nl hg (bk BK493); have NB508_493 := ng hg (bk BK493); have NB494_508 := nl hg (bk BK494); have NB508_494 := ng hg (bk BK494); have NB504_508 := nl hg (bk BK504); have NB508_504 := ng hg (bk BK504); replace BK492 := bb (bk BK492) hb; replace BK493 := bb (bk BK493) hb; replace BK494 := bb (bk BK494) hb; replace BK504 := bb (bk BK504) hb; replace HB := hbb (hzs HB) hb; clear hb hbox hg; have hnb208 := NB508_492.out; have hnc208 := NB492_508.out; have hnb209 := NB508_493.out; have hnc209 := NB493_508.out; have hnb210 := NB508_494.out; have hnc210 := NB494_508.out; have hnb211 := NB508_504.out; have hnc211 := NB504_508.out; obtain ⟨hcz212_0, hcz212_1, hfz212_0, hfz212_1⟩ := cz2 BK508; obtain ⟨hcz213_0, hcz213_1, hfz213_0, hfz213_1⟩ := cz2 BK492; obtain ⟨hcz214_0, hcz214_1, hfz214_0, hfz214_1⟩ := cz2 BK494; obtain ⟨hcz215_0, hcz215_1, hfz215_0, hfz215_1⟩ := cz2 BK493) | ((with_reducible refine gate_callee (f := 29) rfl ?_); refine gL 67 Try.func29 #[.agg #[.int .i64 t486, .int .i64 t487], .agg #[.int .i64 t490, .int .i64 t491], .agg #[.int .i64 t488, .int .i64 t489]] ?_; (with_reducible refine (impl_SpotNear.calls kj4 t486 t487 t490 t491 t488 t489 t509 _ A75.out).mono ?_); rintro e w216 ⟨rfl, hb⟩; refine ⟨_, rfl, ?_⟩; replace BK492 := bb (bk1 BK492 NB492_508) hb; replace BK493 := bb (bk1 BK493 NB493_508) hb; replace BK494 := bb (bk1 BK494 NB494_508) hb; replace BK504 := bb (bk1 BK504 NB504_508) hb; replace BK508 := bb (o := .cells #[.int .i64 t505, .int .i64 t506] 29 (0, 0)) (bkp BK508) hb; replace HB := hbb (hzs HB) hb; clear hb; obtain ⟨hcz217_0, hcz217_1, hfz217_0, hfz217_1⟩ := cz2 BK504; obtain ⟨hcz218_0, hcz218_1, hfz218_0, hfz218_1⟩ := cz2 BK508))
       go_ret
       exact ⟨by first | rfl | (simp [errW_none, errW_some] <;> rfl) | (simp [*, errW_none, errW_some] <;> rfl), hzs HB⟩
     ·rw [if_neg c76] at H
      have c76b0 : (t495 == 1) = false := beq_eq_false_iff_ne.mpr c76
      have c76b1 : (t495 != 1) = true := bne_iff_ne.mpr c76
      by_cases c219 : t495 = 2
      ·rw [if_pos c219] at H
       have c219b0 : (t495 == 2) = true := beq_iff_eq.mpr c219
       have c219b1 : (t495 != 2) = false := bne_eq_false_iff_eq.mpr c219
       clear c219
       by_cases c220 : t505 ≤ t502
       ·rw [if_pos c220] at H
        have c220b0 : decide (t505 ≤ t502) = true := decide_eq_true c220
        clear c220
        replace H := Option.bind_eq_some_iff.mp H
        obtain ⟨t512, A2210, H⟩ := H
        try dsimp only at H
        have A221 := Aside0.mk A2210
        clear A2210
        obtain rfl := Option.some.inj H
        have hnb222 := NB492_493.out
        have hnc222 := NB493_492.out
        have hnb223 := NB492_494.out
        have hnc223 := NB494_492.out
        obtain ⟨hcz224_0, hcz224_1, hfz224_0, hfz224_1⟩ := cz2 BK492
        have hnb225 := NB493_494.out
        have hnc225 := NB494_493.out
        obtain ⟨hcz226_0, hcz226_1, hfz226_0, hfz226_1⟩ := cz2 BK493
        go_wp2_with (first | ((with_reducible refine gate_callee (f := 20) rfl ?_); refine gL 55 Try.func20 #[.agg #[.int .i64 t486, .int .i64 t487], .agg #[.int .i64 t488, .int .i64 t489]] ?_; (with_reducible refine (impl_SpotDist.calls kj4 t486 t487 t488 t489 t501 t502 t503 _ A73.out).mono ?_); rintro e w227 ⟨rfl, hb⟩; refine ⟨_, rfl, ?_⟩; replace BK492 := bb (bk BK492) hb; replace BK493 := bb (bk BK493) hb; replace BK494 := bb (bk BK494) hb; replace HB := hbb (hzs HB) hb; clear hb) | ((with_reducible refine gate_dst (N := 7) rfl ?_); refine bE 7 #[.int .i64 0, .int .i64 0] 29 ?_; intro gb504 hg w228 hbox hb; have BK504 := Aside0.mk (hbox); have GE504 := gw hg (hzs HB); have GW504 := GE504; have NB492_504 := nl hg (bk BK492); have NB504_492 := ng hg (bk BK492); have NB493_504 := nl hg (bk BK493); have NB504_493 := ng hg (bk BK493); have NB494_504 := nl hg (bk BK494); have NB504_494 := ng hg (bk BK494); replace BK492 := bb (bk BK492) hb; replace BK493 := bb (bk BK493) hb; replace BK494 := bb (bk BK494) hb; replace HB := hbb (hzs HB) hb; clear hb hbox hg; have hnb229 := NB504_492.out; have hnc229 := NB492_504.out; have hnb230 := NB504_493.out; have hnc230 := NB493_504.out; have hnb231 := NB504_494.out; have hnc231 := NB494_504.out; obtain ⟨hcz232_0, hcz232_1, hfz232_0, hfz232_1⟩ := cz2 BK504; obtain ⟨hcz233_0, hcz233_1, hfz233_0, hfz233_1⟩ := cz2 BK492; obtain ⟨hcz234_0, hcz234_1, hfz234_0, hfz234_1⟩ := cz2 BK494) | ((with_reducible refine gate_callee (f := 20) rfl ?_); refine gL 61 Try.func20 #[.agg #[.int .i64 t486, .int .i64 t487], .agg #[.int .i64 t490, .int .i64 t491]] ?_; (with_reducible refine (impl_SpotDist.calls kj4 t486 t487 t490 t491 t505 t506 t507 _ A74.out).mono ?_); rintro e w235 ⟨rfl, hb⟩; refine ⟨_, rfl, ?_⟩; replace BK492 := bb (bk1 BK492 NB492_504) hb; replace BK493 := bb (bk1 BK493 NB493_504) hb; replace BK494 := bb (bk1 BK494 NB494_504) hb; replace BK504 := bb (o := .cells #[.int .i64 t501, .int .i64 t502] 29 (0, 0)) (bkp BK504) hb; replace HB := hbb (hzs HB) hb; clear hb) | ((with_reducible refine gate_dst (N := 9) rfl ?_); refine bE 9 #[.int .i64 0, .int .i64 0] 29 ?_; intro gb508 hg w236 hbox hb; have BK508 := Aside0.mk (hbox); have GE508 := gw hg (hzs HB); have GW508 := GE508; have NB492_508 := nl hg (bk BK492); have NB508_492 := ng hg (bk BK492); have NB493_508 := nl hg (bk BK493); have NB508_493 := ng hg (bk BK493); have NB494_508 := nl hg (bk BK494); have NB508_494 := ng hg (bk BK494); have NB504_508 := nl hg (bk BK504); have NB508_504 := ng hg (bk BK504); replace BK492 := bb (bk BK492) hb; replace BK493 := bb (bk BK493) hb; replace BK494 := bb (bk BK494) hb; replace BK504 := bb (bk BK504) hb; replace HB := hbb (hzs HB) hb; clear hb hbox hg; have hnb237 := NB508_492.out; have hnc237 := NB492_508.out; have hnb238 := NB508_493.out; have hnc238 := NB493_508.out; have hnb239 := NB508_494.out; have hnc239 := NB494_508.out; have hnb240 := NB508_504.out; have hnc240 := NB504_508.out; obtain ⟨hcz241_0, hcz241_1, hfz241_0, hfz241_1⟩ := cz2 BK508; obtain ⟨hcz242_0, hcz242_1, hfz242_0, hfz242_1⟩ := cz2 BK492; obtain ⟨hcz243_0, hcz243_1, hfz243_0, hfz243_1⟩ := cz2 BK494; obtain ⟨hcz244_0, hcz244_1, hfz244_0, hfz244_1⟩ := cz2 BK493) | ((with_reducible refine gate_callee (f := 29) rfl ?_); refine gL 67 Try.func29 #[.agg #[.int .i64 t486, .int .i64 t487], .agg #[.int .i64 t490, .int .i64 t491], .agg #[.int .i64 t488, .int .i64 t489]] ?_; (with_reducible refine (impl_SpotNear.calls kj4 t486 t487 t490 t491 t488 t489 t509 _ A75.out).mono ?_); rintro e w245 ⟨rfl, hb⟩; refine ⟨_, rfl, ?_⟩; replace BK492 := bb (bk1 BK492 NB492_508) hb; replace BK493 := bb (bk1 BK493 NB493_508) hb; replace BK494 := bb (bk1 BK494 NB494_508) hb; replace BK504 := bb (bk1 BK504 NB504_508) hb; replace BK508 := bb (o := .cells #[.int .i64 t505, .int .i64 t506] 29 (0, 0)) (bkp BK508) hb; replace HB := hbb (hzs HB) hb; clear hb; obtain ⟨hcz246_0, hcz246_1, hfz246_0, hfz246_1⟩ := cz2 BK508; obtain ⟨hcz247_0, hcz247_1, hfz247_0, hfz247_1⟩ := cz2 BK504; obtain ⟨hcz248_0, hcz248_1, hfz248_0, hfz248_1⟩ := cz2 BK492; obtain ⟨hcz249_0, hcz249_1, hfz249_0, hfz249_1⟩ := cz2 BK493) | (go_at_call 29; (with_reducible refine (impl_SpotNear.calls kj4 t486 t487 t488 t489 t488 t489 t512 _ A221.out).mono ?_); rintro e w250 ⟨rfl, hb⟩; replace BK492 := bb (bk BK492) hb; replace BK493 := bb (bk BK493) hb; replace BK494 := bb (bk BK494) hb; replace BK504 := bb (bk BK504) hb; replace BK508 := bb (bk BK508) hb; replace HB := hbb (hzs HB) hb; clear hb))
        go_ret
        exact ⟨by first | rfl | (simp [errW_none, errW_some] <;> rfl) | (simp [*, errW_none, errW_some] <;> rfl), hzs HB⟩
       ·rw [if_neg c220] at H
        have c220b0 : decide (t505 ≤ t502) = false := decide_eq_false c220
        clear c220
        obtain rfl := Option.some.inj H
        have hnb251 := NB492_493.out
        have hnc251 := NB493_492.out
        have hnb252 := NB492_494.out
        have hnc252 := NB494_492.out
        obtain ⟨hcz253_0, hcz253_1, hfz253_0, hfz253_1⟩ := cz2 BK492
        have hnb254 := NB493_494.out
        have hnc254 := NB494_493.out
        obtain ⟨hcz255_0, hcz255_1, hfz255_0, hfz255_1⟩ := cz2 BK493
        go_wp2_with (first | ((with_reducible refine gate_callee (f := 20) rfl ?_); refine gL 55 Try.func20 #[.agg #[.int .i64 t486, .int .i64 t487], .agg #[.int .i64 t488, .int .i64 t489]] ?_; (with_reducible refine (impl_SpotDist.calls kj4 t486 t487 t488 t489 t501 t502 t503 _ A73.out).mono ?_); rintro e w256 ⟨rfl, hb⟩; refine ⟨_, rfl, ?_⟩; replace BK492 := bb (bk BK492) hb; replace BK493 := bb (bk BK493) hb; replace BK494 := bb (bk BK494) hb; replace HB := hbb (hzs HB) hb; clear hb) | ((with_reducible refine gate_dst (N := 7) rfl ?_); refine bE 7 #[.int .i64 0, .int .i64 0] 29 ?_; intro gb504 hg w257 hbox hb; have BK504 := Aside0.mk (hbox); have GE504 := gw hg (hzs HB); have GW504 := GE504; have NB492_504 := nl hg (bk BK492); have NB504_492 := ng hg (bk BK492); have NB493_504 := nl hg (bk BK493); have NB504_493 := ng hg (bk BK493); have NB494_504 := nl hg (bk BK494); have NB504_494 := ng hg (bk BK494); replace BK492 := bb (bk BK492) hb; replace BK493 := bb (bk BK493) hb; replace BK494 := bb (bk BK494) hb; replace HB := hbb (hzs HB) hb; clear hb hbox hg; have hnb258 := NB504_492.out; have hnc258 := NB492_504.out; have hnb259 := NB504_493.out; have hnc259 := NB493_504.out; have hnb260 := NB504_494.out; have hnc260 := NB494_504.out; obtain ⟨hcz261_0, hcz261_1, hfz261_0, hfz261_1⟩ := cz2 BK504; obtain ⟨hcz262_0, hcz262_1, hfz262_0, hfz262_1⟩ := cz2 BK492; obtain ⟨hcz263_0, hcz263_1, hfz263_0, hfz263_1⟩ := cz2 BK494) | ((with_reducible refine gate_callee (f := 20) rfl ?_); refine gL 61 Try.func20 #[.agg #[.int .i64 t486, .int .i64 t487], .agg #[.int .i64 t490, .int .i64 t491]] ?_; (with_reducible refine (impl_SpotDist.calls kj4 t486 t487 t490 t491 t505 t506 t507 _ A74.out).mono ?_); rintro e w264 ⟨rfl, hb⟩; refine ⟨_, rfl, ?_⟩; replace BK492 := bb (bk1 BK492 NB492_504) hb; replace BK493 := bb (bk1 BK493 NB493_504) hb; replace BK494 := bb (bk1 BK494 NB494_504) hb; replace BK504 := bb (o := .cells #[.int .i64 t501, .int .i64 t502] 29 (0, 0)) (bkp BK504) hb; replace HB := hbb (hzs HB) hb; clear hb) | ((with_reducible refine gate_dst (N := 9) rfl ?_); refine bE 9 #[.int .i64 0, .int .i64 0] 29 ?_; intro gb508 hg w265 hbox hb; have BK508 := Aside0.mk (hbox); have GE508 := gw hg (hzs HB); have GW508 := GE508; have NB492_508 := nl hg (bk BK492); have NB508_492 := ng hg (bk BK492); have NB493_508 := nl hg (bk BK493); have NB508_493 := ng hg (bk BK493); have NB494_508 := nl hg (bk BK494); have NB508_494 := ng hg (bk BK494); have NB504_508 := nl hg (bk BK504); have NB508_504 := ng hg (bk BK504); replace BK492 := bb (bk BK492) hb; replace BK493 := bb (bk BK493) hb; replace BK494 := bb (bk BK494) hb; replace BK504 := bb (bk BK504) hb; replace HB := hbb (hzs HB) hb; clear hb hbox hg; have hnb266 := NB508_492.out; have hnc266 := NB492_508.out; have hnb267 := NB508_493.out; have hnc267 := NB493_508.out; have hnb268 := NB508_494.out; have hnc268 := NB494_508.out; have hnb269 := NB508_504.out; have hnc269 := NB504_508.out; obtain ⟨hcz270_0, hcz270_1, hfz270_0, hfz270_1⟩ := cz2 BK508; obtain ⟨hcz271_0, hcz271_1, hfz271_0, hfz271_1⟩ := cz2 BK492; obtain ⟨hcz272_0, hcz272_1, hfz272_0, hfz272_1⟩ := cz2 BK494; obtain ⟨hcz273_0, hcz273_1, hfz273_0, hfz273_1⟩ := cz2 BK493) | ((with_reducible refine gate_callee (f := 29) rfl ?_); refine gL 67 Try.func29 #[.agg #[.int .i64 t486, .int .i64 t487], .agg #[.int .i64 t490, .int .i64 t491], .agg #[.int .i64 t488, .int .i64 t489]] ?_; (with_reducible refine (impl_SpotNear.calls kj4 t486 t487 t490 t491 t488 t489 t509 _ A75.out).mono ?_); rintro e w274 ⟨rfl, hb⟩; refine ⟨_, rfl, ?_⟩; replace BK492 := bb (bk1 BK492 NB492_508) hb; replace BK493 := bb (bk1 BK493 NB493_508) hb; replace BK494 := bb (bk1 BK494 NB494_508) hb; replace BK504 := bb (bk1 BK504 NB504_508) hb; replace BK508 := bb (o := .cells #[.int .i64 t505, .int .i64 t506] 29 (0, 0)) (bkp BK508) hb; replace HB := hbb (hzs HB) hb; clear hb; obtain ⟨hcz275_0, hcz275_1, hfz275_0, hfz275_1⟩ := cz2 BK508; obtain ⟨hcz276_0, hcz276_1, hfz276_0, hfz276_1⟩ := cz2 BK504))
        go_ret
        exact ⟨by first | rfl | (simp [errW_none, errW_some] <;> rfl) | (simp [*, errW_none, errW_some] <;> rfl), hzs HB⟩
      ·rw [if_neg c219] at H
       have c219b0 : (t495 == 2) = false := beq_eq_false_iff_ne.mpr c219
       have c219b1 : (t495 != 2) = true := bne_iff_ne.mpr c219
       replace H := Option.bind_eq_some_iff.mp H
       obtain ⟨t513, A2770, H⟩ := H
       try dsimp only at H
       have A277 := Aside0.mk A2770
       clear A2770
       obtain rfl := Option.some.inj H
       have hnb278 := NB492_493.out
       have hnc278 := NB493_492.out
       have hnb279 := NB492_494.out
       have hnc279 := NB494_492.out
       obtain ⟨hcz280_0, hcz280_1, hfz280_0, hfz280_1⟩ := cz2 BK492
       have hnb281 := NB493_494.out
       have hnc281 := NB494_493.out
       obtain ⟨hcz282_0, hcz282_1, hfz282_0, hfz282_1⟩ := cz2 BK493
       go_wp2_with (first | ((with_reducible refine gate_callee (f := 20) rfl ?_); refine gL 55 Try.func20 #[.agg #[.int .i64 t486, .int .i64 t487], .agg #[.int .i64 t488, .int .i64 t489]] ?_; (with_reducible refine (impl_SpotDist.calls kj4 t486 t487 t488 t489 t501 t502 t503 _ A73.out).mono ?_); rintro e w283 ⟨rfl, hb⟩; refine ⟨_, rfl, ?_⟩; replace BK492 := bb (bk BK492) hb; replace BK493 := bb (bk BK493) hb; replace BK494 := bb (bk BK494) hb; replace HB := hbb (hzs HB) hb; clear hb) | ((with_reducible refine gate_dst (N := 7) rfl ?_); refine bE 7 #[.int .i64 0, .int .i64 0] 29 ?_; intro gb504 hg w284 hbox hb; have BK504 := Aside0.mk (hbox); have GE504 := gw hg (hzs HB); have GW504 := GE504; have NB492_504 := nl hg (bk BK492); have NB504_492 := ng hg (bk BK492); have NB493_504 := nl hg (bk BK493); have NB504_493 := ng hg (bk BK493); have NB494_504 := nl hg (bk BK494); have NB504_494 := ng hg (bk BK494); replace BK492 := bb (bk BK492) hb; replace BK493 := bb (bk BK493) hb; replace BK494 := bb (bk BK494) hb; replace HB := hbb (hzs HB) hb; clear hb hbox hg; have hnb285 := NB504_492.out; have hnc285 := NB492_504.out; have hnb286 := NB504_493.out; have hnc286 := NB493_504.out; have hnb287 := NB504_494.out; have hnc287 := NB494_504.out; obtain ⟨hcz288_0, hcz288_1, hfz288_0, hfz288_1⟩ := cz2 BK504; obtain ⟨hcz289_0, hcz289_1, hfz289_0, hfz289_1⟩ := cz2 BK492; obtain ⟨hcz290_0, hcz290_1, hfz290_0, hfz290_1⟩ := cz2 BK494) | ((with_reducible refine gate_callee (f := 20) rfl ?_); refine gL 61 Try.func20 #[.agg #[.int .i64 t486, .int .i64 t487], .agg #[.int .i64 t490, .int .i64 t491]] ?_; (with_reducible refine (impl_SpotDist.calls kj4 t486 t487 t490 t491 t505 t506 t507 _ A74.out).mono ?_); rintro e w291 ⟨rfl, hb⟩; refine ⟨_, rfl, ?_⟩; replace BK492 := bb (bk1 BK492 NB492_504) hb; replace BK493 := bb (bk1 BK493 NB493_504) hb; replace BK494 := bb (bk1 BK494 NB494_504) hb; replace BK504 := bb (o := .cells #[.int .i64 t501, .int .i64 t502] 29 (0, 0)) (bkp BK504) hb; replace HB := hbb (hzs HB) hb; clear hb) | ((with_reducible refine gate_dst (N := 9) rfl ?_); refine bE 9 #[.int .i64 0, .int .i64 0] 29 ?_; intro gb508 hg w292 hbox hb; have BK508 := Aside0.mk (hbox); have GE508 := gw hg (hzs HB); have GW508 := GE508; have NB492_508 := nl hg (bk BK492); have NB508_492 := ng hg (bk BK492); have NB493_508 := nl hg (bk BK493); have NB508_493 := ng hg (bk BK493); have NB494_508 := nl hg (bk BK494); have NB508_494 := ng hg (bk BK494); have NB504_508 := nl hg (bk BK504); have NB508_504 := ng hg (bk BK504); replace BK492 := bb (bk BK492) hb; replace BK493 := bb (bk BK493) hb; replace BK494 := bb (bk BK494) hb; replace BK504 := bb (bk BK504) hb; replace HB := hbb (hzs HB) hb; clear hb hbox hg; have hnb293 := NB508_492.out; have hnc293 := NB492_508.out; have hnb294 := NB508_493.out; have hnc294 := NB493_508.out; have hnb295 := NB508_494.out; have hnc295 := NB494_508.out; have hnb296 := NB508_504.out; have hnc296 := NB504_508.out; obtain ⟨hcz297_0, hcz297_1, hfz297_0, hfz297_1⟩ := cz2 BK508; obtain ⟨hcz298_0, hcz298_1, hfz298_0, hfz298_1⟩ := cz2 BK492; obtain ⟨hcz299_0, hcz299_1, hfz299_0, hfz299_1⟩ := cz2 BK494; obtain ⟨hcz300_0, hcz300_1, hfz300_0, hfz300_1⟩ := cz2 BK493) | ((with_reducible refine gate_callee (f := 29) rfl ?_); refine gL 67 Try.func29 #[.agg #[.int .i64 t486, .int .i64 t487], .agg #[.int .i64 t490, .int .i64 t491], .agg #[.int .i64 t488, .int .i64 t489]] ?_; (with_reducible refine (impl_SpotNear.calls kj4 t486 t487 t490 t491 t488 t489 t509 _ A75.out).mono ?_); rintro e w301 ⟨rfl, hb⟩; refine ⟨_, rfl, ?_⟩; replace BK492 := bb (bk1 BK492 NB492_508) hb; replace BK493 := bb (bk1 BK493 NB493_508) hb; replace BK494 := bb (bk1 BK494 NB494_508) hb; replace BK504 := bb (bk1 BK504 NB504_508) hb; replace BK508 := bb (o := .cells #[.int .i64 t505, .int .i64 t506] 29 (0, 0)) (bkp BK508) hb; replace HB := hbb (hzs HB) hb; clear hb; obtain ⟨hcz302_0, hcz302_1, hfz302_0, hfz302_1⟩ := cz2 BK492; obtain ⟨hcz303_0, hcz303_1, hfz303_0, hfz303_1⟩ := cz2 BK493) | (go_at_call 29; (with_reducible refine (impl_SpotNear.calls kj4 t486 t487 t488 t489 t488 t489 t513 _ A277.out).mono ?_); rintro e w304 ⟨rfl, hb⟩; replace BK492 := bb (bk BK492) hb; replace BK493 := bb (bk BK493) hb; replace BK494 := bb (bk BK494) hb; replace BK504 := bb (bk BK504) hb; replace BK508 := bb (bk BK508) hb; replace HB := hbb (hzs HB) hb; clear hb))
       go_ret
       exact ⟨by first | rfl | (simp [errW_none, errW_some] <;> rfl) | (simp [*, errW_none, errW_some] <;> rfl), hzs HB⟩


theorem drawSpotNear_tells {l : List Int} (hl : Bytes l) {k : Nat} (hk : 20 ≤ k) : ∃ fu fa pu pa qu qa, spec_DrawSpotNear.f k l = some (fu, fa, pu, pa, qu, qa) := by
 unfold spec_DrawSpotNear.f
 obtain ⟨b, h1, h2, h3⟩ := open_tells hl
 rw [h1]; simp only [Option.bind_some]
 obtain ⟨pu, pa, qu, qa, p, q1, q2, q3⟩ := spots_tells h2 h3 (show (0 : Int) ≤ 0 by omega) (by omega) hk
 rw [q1]; simp only [Option.bind_some]
 obtain ⟨fu, fa, p2, r1, r2, r3⟩ := spot_tells h2 h3 (show 0 ≤ p by omega) (by omega) hk
 rw [r1]; simp only [Option.bind_some]
 exact ⟨_, _, _, _, _, _, rfl⟩
theorem distR_in {pu pa qu qa : Int} (h : (Up pu ∧ Ar pa) ∧ (Up qu ∧ Ar qa)) : distR pu pa qu qa = ((distOf (squareM pu pa qu qa)).1, (distOf (squareM pu pa qu qa)).2, true) := if_pos h
theorem distR_out {pu pa qu qa : Int} (h : ¬ ((Up pu ∧ Ar pa) ∧ (Up qu ∧ Ar qa))) : distR pu pa qu qa = (0, 0, false) := if_neg h
theorem FnSpotNear_pure {l0 : List Int} (hl : Bytes l0) {k : Nat} (hk : 300 ≤ k) : laws_FnSpotNear.f (k + 1) l0 = some true := by
 unfold laws_FnSpotNear.f
 by_cases h : (l0.length : Int) > 1048576
 ·rw [if_pos h]
 rw [if_neg h]
 obtain ⟨fu, fa, pu, pa, qu, qa, hd⟩ := drawSpotNear_tells hl (k := k + 1) (by omega)
 rw [hd]; simp only [Option.bind_some]
 rw [(SpotNear_is fu fa pu pa qu qa (by omega)).1, (SpotNear_is fu fa pu pa qu qa (by omega)).2, (SpotOk_is fu fa).2, (SpotOk_is pu pa).2, (SpotOk_is qu qa).2]
 simp only [Option.bind_some, if_true]
 by_cases h0 : Up fu ∧ Ar fa
 ·by_cases h1 : Up pu ∧ Ar pa
  ·by_cases h2 : Up qu ∧ Ar qa
   ·simp only [h0, h1, h2, and_self, decide_true, if_true, Bool.not_true]
    rw [laws_FnSpotNear.j0]
    simp only [Bool.false_eq_true, if_false]
    have o0 : Okay fu fa := h0
    have o1 : Okay pu pa := h1
    have o2 : Okay qu qa := h2
    rw [(SpotDist_is fu fa pu pa (by omega)).1, (SpotDist_is fu fa qu qa (by omega)).1, distR_in ⟨h0, h1⟩, distR_in ⟨h0, h2⟩, (SpotNear_is fu fa qu qa pu pa (by omega)).1, (SpotNear_is fu fa pu pa pu pa (by omega)).1]
    have us := (square_parts h0.1 h1.1 fa pa).2.2
    have ut := (square_parts h0.1 h2.1 fa qa).2.2
    have self : nearR fu fa pu pa pu pa = 2 := by unfold nearR; rw [if_pos ⟨o0, o1, o1⟩, if_pos ⟨rfl, .inl rfl⟩]
    have e1 : nearR fu fa pu pa qu qa = if Same pu pa qu qa then 2 else lessR (squareM fu fa pu pa) (squareM fu fa qu qa) := if_pos ⟨o0, o1, o2⟩
    have e2 : nearR fu fa qu qa pu pa = if Same qu qa pu pa then 2 else lessR (squareM fu fa qu qa) (squareM fu fa pu pa) := if_pos ⟨o0, o2, o1⟩
    rw [self, e1, e2]
    simp only [Option.bind_some]
    by_cases s : Same pu pa qu qa
    ·have sq := square_from fu fa s
     have d := dist_ends us
     rw [← sq]
     simp [s, d.2.1]
    ·have s2 : ¬ Same qu qa pu pa := fun x => s (same_sym.1 x)
     rw [if_neg s, if_neg s2]
     unfold lessR
     obtain ⟨a1, a2, a3⟩ := us
     obtain ⟨b1, b2, b3⟩ := ut
     by_cases c1 : (squareM fu fa pu pa).2 < (squareM fu fa qu qa).1
     ·have o := dist_order (s := squareM fu fa pu pa) (t := squareM fu fa qu qa) ⟨a1, a2, a3⟩ ⟨b1, b2, b3⟩ (by omega)
      have c3 : ¬ (squareM fu fa qu qa).2 < (squareM fu fa pu pa).1 := by omega
      have c4 : (squareM fu fa pu pa).2 ≤ (squareM fu fa qu qa).1 := by omega
      simp [c1, o, c3, c4]
     ·by_cases c2 : (squareM fu fa pu pa).1 ≥ (squareM fu fa qu qa).2
      ·have o := dist_order (s := squareM fu fa qu qa) (t := squareM fu fa pu pa) ⟨b1, b2, b3⟩ ⟨a1, a2, a3⟩ (by omega)
       simp [c1, c2, o]
      ·simp [c1, c2]
   ·simp only [h0, h1, h2, decide_true, decide_false, if_true, Bool.not_false]
    simp [laws_FnSpotNear.j0, (SpotNear_is fu fa pu pa qu qa (k := k) (by omega)).2]
  ·simp only [h0, h1, decide_true, decide_false, if_true, Bool.false_eq_true, if_false]
   simp [laws_FnSpotNear.j0, (SpotNear_is fu fa pu pa qu qa (k := k) (by omega)).2]
 ·simp only [h0, decide_false, Bool.false_eq_true, if_false]
  simp [laws_FnSpotNear.j0, (SpotNear_is fu fa pu pa qu qa (k := k) (by omega)).2]
theorem FnSpotNear_true (A0 : Option Addr) (c0 : Nat) (l0 : List Int) (w : World) (hr0 : Kd.C (Kd.int .u8) w A0 l0.length l0) (hc0 : l0.length ≤ c0) (hw0 : ∀ x ∈ l0, (Lit.int .u8 x).wf = true) :
  Calls Try.prog 9 #[.slice A0 l0.length c0] w fun e w' => e = .returned (.bool true) ∧ Below w.heap.size w w' :=
 laws_FnSpotNear.calls 301 A0 c0 l0 true w hr0 hc0 (FnSpotNear_pure (bytes_of hw0) (by omega))

end Go.Proofs.Ytmcippkpgmehdaa.M
