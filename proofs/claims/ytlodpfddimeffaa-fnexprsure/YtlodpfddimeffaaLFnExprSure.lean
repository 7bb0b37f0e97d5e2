import Derived.Test.YtlodpfddimeffaaP7
import Derived.Test.YtlodpfddimeffaaP8
import Derived.Test.YtlodpfddimeffaaDf
namespace Go.Proofs.Ytlodpfddimeffaa.M
open Go.RowKit Go.Proofs.YtlodpfddimeffaaW.PrintWords Go.Proofs.YtlodpfddimeffaaW.PrintLast Go.Proofs.YtlodpfddimeffaaW.PrintMore
attribute [local go_sem] max2_int min2_int max_two min_two max_three min_three max_four min_four
attribute [local go_sem high] eqA31
attribute [local go_sem] fld31_0 fld31_1 fld25_0 fld25_1 fld25_2 fld25_3
set_option linter.unusedVariables false
set_option linter.unusedSimpArgs false
/-! ### laws_FnExprSure: function 3 -/
def laws_FnExprSure.j0 : Nat → Int → Int → Int → Bool → Bool → Int → Int → Int → List (S25) → Option (Bool)
 | 0, _, _, _, _, _, _, _, _, _ => none
 | k + 1, x4, x5, x8, x9, x44, x599000, x599001, x599002, x599003 => if x44 = true then (some false) else ((impl_ExprSpan.f k x599000 x599001 x599002 x599003).bind fun bt603 => ((impl_SureRound.f bt603.1 bt603.2.1 x4 x5).bind fun bt607 => (if bt603.2.2 = true then (if (x9 == bt607.2) = true then (if x9 = true then (some (bt607.1 == x8)) else (some true)) else (some false)) else (if (x9 == false) = true then (if x9 = true then (some (bt607.1 == x8)) else (some true)) else (some false)))))
def laws_FnExprSure.f (k : Nat) (l0 : List Int) : Option (Bool) := if (l0.length : Int) > 1048576 then (some true) else ((spec_DrawExprRound.f k l0).bind fun bt590 => ((spec_ExprRound.f k bt590.1 bt590.2.1 bt590.2.2.1 bt590.2.2.2.1 bt590.2.2.2.2.1 bt590.2.2.2.2.2).bind fun bt599 => ((impl_ExprRound.f k bt590.1 bt590.2.1 bt590.2.2.1 bt590.2.2.2.1 bt590.2.2.2.2.1 bt590.2.2.2.2.2).bind fun bt601 => (if (bt601.2 != bt599.2) = true then (laws_FnExprSure.j0 k bt590.2.2.2.2.1 bt590.2.2.2.2.2 bt601.1 bt601.2 true bt590.1 bt590.2.1 bt590.2.2.1 bt590.2.2.2.1) else (laws_FnExprSure.j0 k bt590.2.2.2.2.1 bt590.2.2.2.2.2 bt601.1 bt601.2 (bt601.1 != bt599.1) bt590.1 bt590.2.1 bt590.2.2.1 bt590.2.2.2.1)))))
set_option maxHeartbeats 8000000 in
set_option maxRecDepth 100000 in
theorem laws_FnExprSure.calls (k : Nat) (A0 : Option Addr) (c0 : Nat) (l0 : List Int) (r : Bool) (w : World) (hr0 : Kd.C (Kd.int .u8) w A0 l0.length l0) (hc0 : l0.length ≤ c0) (h : laws_FnExprSure.f k l0 = some r) :
  Calls Try.prog 3 #[.slice A0 l0.length c0] w fun e w' => e = .returned (.bool r) ∧ Below w.heap.size w w' := by
 have hu25 := Try.underlying25
 have hu31 := Try.underlying31
 have HR0 := Aside0.mk hr0
 have HC0 := Aside0.mk hc0
 clear hr0 hc0
 have HB := Aside0.mk (Below.refl w.heap.size w)
 have H : (if (l0.length : Int) > 1048576 then (some true) else ((spec_DrawExprRound.f k l0).bind fun bt590 => ((spec_ExprRound.f k bt590.1 bt590.2.1 bt590.2.2.1 bt590.2.2.2.1 bt590.2.2.2.2.1 bt590.2.2.2.2.2).bind fun bt599 => ((impl_ExprRound.f k bt590.1 bt590.2.1 bt590.2.2.1 bt590.2.2.2.1 bt590.2.2.2.2.1 bt590.2.2.2.2.2).bind fun bt601 => (if (bt601.2 != bt599.2) = true then (laws_FnExprSure.j0 k bt590.2.2.2.2.1 bt590.2.2.2.2.2 bt601.1 bt601.2 true bt590.1 bt590.2.1 bt590.2.2.1 bt590.2.2.2.1) else (laws_FnExprSure.j0 k bt590.2.2.2.2.1 bt590.2.2.2.2.2 bt601.1 bt601.2 (bt601.1 != bt599.1) bt590.1 bt590.2.1 bt590.2.2.1 bt590.2.2.2.1)))))) = some r := h
 clear h
 by_cases c2 : (l0.length : Int) > 1048576
 ·rw [if_pos c2] at H
  have c2b0 : decide (1048576 < (l0.length : Int)) = true := decide_eq_true c2
  have c2b1 : decide (1048576 < l0.length) = true := decide_eq_true (by omega)
  clear c2
  obtain rfl := Option.some.inj H
  go_enter Try.func3, Try.ntmps3
  go_wp2
  go_ret
  exact ⟨by first | rfl | (simp [errW_none, errW_some] <;> rfl) | (simp [*, errW_none, errW_some] <;> rfl), hz0 HB⟩
 ·rw [if_neg c2] at H
  have c2b0 : decide (1048576 < (l0.length : Int)) = false := decide_eq_false c2
  have c2b1 : decide (1048576 < l0.length) = false := decide_eq_false (by omega)
  clear c2
  replace H := Option.bind_eq_some_iff.mp H
  obtain ⟨⟨t590, t591, t592, t593, t596, t597⟩, A30, H⟩ := H
  try dsimp only at H
  have A3 := Aside0.mk A30
  clear A30
  replace H := Option.bind_eq_some_iff.mp H
  obtain ⟨⟨t599, t600⟩, A40, H⟩ := H
  try dsimp only at H
  have A4 := Aside0.mk A40
  clear A40
  replace H := Option.bind_eq_some_iff.mp H
  obtain ⟨⟨t601, t602⟩, A50, H⟩ := H
  try dsimp only at H
  have A5 := Aside0.mk A50
  clear A50
  have HC6 := Aside0.mk H
  clear H
  go_enter Try.func3, Try.ntmps3
  go_upto_region 6 with (first | ((with_reducible refine gate_callee (f := 15) rfl ?_); refine gL 19 Try.func15 #[.slice A0 l0.length c0] ?_; (with_reducible refine (spec_DrawExprRound.calls k _ _ l0 t590 t591 t592 t593 t596 t597 _ ?side1 ?side2 A3.out).mono ?_); (case side1 => repeat (first | exact HR0.out | (with_reducible refine Kd.C_alloc ?_ _) | (with_reducible refine Kd.C_drewN ?_ _) | (with_reducible refine Kd.C_drew ?_))); (case side2 => exact HC0.out); rintro e w7 ⟨v594, rfl, ho0, hb⟩; refine ⟨_, rfl, ?_⟩; have HO595 := Aside0.mk (Kd.N_lower (Kd.N_mono (ok' := fun k_ => True) ho0 (fun k_ hk_ => trivial)) (below_size (hz0 HB))); replace HB := hbb (hz0 HB) hb; (try clear hb); (try clear hb2); (try clear hk); (try clear hi); (try clear ho0)) | ((with_reducible refine gate_dst (N := 3) rfl ?_); refine bE 3 #[.int .i64 0, .int .i64 0, .int .i64 0, .slice none 0 0] 25 ?_; intro gb598 hg w8 hbox hb; have BK598 := Aside0.mk (hbox); have GE598 := gw hg (hz0 HB); replace HO595 := Aside0.mk (Kd.N_below (Kd.N_elderB (by (with_reducible repeat (first | apply Kd.N_alloc | apply Kd.N_drewN | apply Kd.N_drew)); exact HO595.out) gb598 (Nat.le_of_eq hg.symm)) hb); replace HB := hbb (hz0 HB) hb; clear hb hbox hg; have hcz9_0 : w8.cell? ⟨gb598, 0, none⟩ = some (.int .i64 0) := (blk_cell BK598.out 0).trans rfl; have hcz9_1 : w8.cell? ⟨gb598, 1, none⟩ = some (.int .i64 0) := (blk_cell BK598.out 1).trans rfl; have hcz9_2 : w8.cell? ⟨gb598, 2, none⟩ = some (.int .i64 0) := (blk_cell BK598.out 2).trans rfl; have hcz9_3 : w8.cell? ⟨gb598, 3, none⟩ = some (.slice none 0 0) := (blk_cell BK598.out 3).trans rfl; have hfz9_0 := blk_frozen BK598.out 0; have hfz9_1 := blk_frozen BK598.out 1; have hfz9_2 := blk_frozen BK598.out 2; have hfz9_3 := blk_frozen BK598.out 3; obtain ⟨Ao10, co10, eo10⟩ := Kd.N_slice HO595.out; subst eo10) | ((with_reducible refine gate_callee (f := 16) rfl ?_); refine gL 27 Try.func16 #[.agg #[.int .i64 t590, .int .i64 t591, .int .i64 t592, .slice Ao10 t593.length co10], .int .i64 t596, .int .i64 t597] ?_; (with_reducible refine (spec_ExprRound.calls k t590 t591 t592 _ _ t593 t596 t597 t599 t600 _ ?side1 ?side2 A4.out).mono ?_); (case side1 => refine (Kd.N_reads' (e := 25) (base := w.heap.size) (ok := fun k_ => (True ∧ k_ ≠ gb598)) (n := t593.length) (c := co10) ?_).2.2; exact (by (with_reducible repeat (first | apply Kd.N_alloc | apply Kd.N_drewN | apply Kd.N_drew)); exact (Kd.N_mono (Kd.N_far (p := ⟨gb598, 3, none⟩) (Kd.N_far (p := ⟨gb598, 2, none⟩) (Kd.N_far (p := ⟨gb598, 1, none⟩) (Kd.N_far (p := ⟨gb598, 0, none⟩) (Kd.N_mono HO595.out (fun k_ hk => (⟨hk, hk.2⟩ : _ ∧ k_ ≠ gb598))) (fun _ hk => hk.2) (.int .i64 t590)) (fun _ hk => hk.2) (.int .i64 t591)) (fun _ hk => hk.2) (.int .i64 t592)) (fun _ hk => hk.2) (.slice Ao10 t593.length co10)) (fun _ h_ => h_.1)))); (case side2 => exact (Kd.N_reads' HO595.out).2.1); rintro e w11 ⟨rfl, hb⟩; refine ⟨_, rfl, ?_⟩; replace HO595 := Aside0.mk (Kd.N_below (by (with_reducible repeat (first | apply Kd.N_alloc | apply Kd.N_drewN | apply Kd.N_drew)); exact (Kd.N_mono (Kd.N_far (p := ⟨gb598, 3, none⟩) (Kd.N_far (p := ⟨gb598, 2, none⟩) (Kd.N_far (p := ⟨gb598, 1, none⟩) (Kd.N_far (p := ⟨gb598, 0, none⟩) (Kd.N_mono HO595.out (fun k_ hk => (⟨hk, hk.2⟩ : _ ∧ k_ ≠ gb598))) (fun _ hk => hk.2) (.int .i64 t590)) (fun _ hk => hk.2) (.int .i64 t591)) (fun _ hk => hk.2) (.int .i64 t592)) (fun _ hk => hk.2) (.slice Ao10 t593.length co10)) (fun _ h_ => h_.1))) hb); replace BK598 := Aside0.mk (blk_below (g := gb598) (o := .cells #[.int .i64 t590, .int .i64 t591, .int .i64 t592, .slice Ao10 t593.length co10] 25 (0, 0)) (by (with_reducible repeat (first | refine blk_drewN ?_ _ | refine blk_drew ?_ | refine blk_alloc ?_ _)); refine blk_put (cs := #[.int .i64 t590, .int .i64 t591, .int .i64 t592, .slice none 0 0]) ?_ 3 _ rfl; (with_reducible repeat (first | refine blk_drewN ?_ _ | refine blk_drew ?_ | refine blk_alloc ?_ _)); refine blk_put (cs := #[.int .i64 t590, .int .i64 t591, .int .i64 0, .slice none 0 0]) ?_ 2 _ rfl; (with_reducible repeat (first | refine blk_drewN ?_ _ | refine blk_drew ?_ | refine blk_alloc ?_ _)); refine blk_put (cs := #[.int .i64 t590, .int .i64 0, .int .i64 0, .slice none 0 0]) ?_ 1 _ rfl; (with_reducible repeat (first | refine blk_drewN ?_ _ | refine blk_drew ?_ | refine blk_alloc ?_ _)); refine blk_put (cs := #[.int .i64 0, .int .i64 0, .int .i64 0, .slice none 0 0]) ?_ 0 _ rfl; (with_reducible repeat (first | refine blk_drewN ?_ _ | refine blk_drew ?_ | refine blk_alloc ?_ _)); exact BK598.out) hb); replace HB := hbb (hzs HB) hb; clear hb; have hcz12_0 : w11.cell? ⟨gb598, 0, none⟩ = some (.int .i64 t590) := (blk_cell BK598.out 0).trans rfl; have hcz12_1 : w11.cell? ⟨gb598, 1, none⟩ = some (.int .i64 t591) := (blk_cell BK598.out 1).trans rfl; have hcz12_2 : w11.cell? ⟨gb598, 2, none⟩ = some (.int .i64 t592) := (blk_cell BK598.out 2).trans rfl; have hcz12_3 : w11.cell? ⟨gb598, 3, none⟩ = some (.slice Ao10 t593.length co10) := (blk_cell BK598.out 3).trans rfl; have hfz12_0 := blk_frozen BK598.out 0; have hfz12_1 := blk_frozen BK598.out 1; have hfz12_2 := blk_frozen BK598.out 2; have hfz12_3 := blk_frozen BK598.out 3) | ((with_reducible refine gate_callee (f := 17) rfl ?_); refine gL 34 Try.func17 #[.agg #[.int .i64 t590, .int .i64 t591, .int .i64 t592, .slice Ao10 t593.length co10], .int .i64 t596, .int .i64 t597] ?_; (with_reducible refine (impl_ExprRound.calls k t590 t591 t592 _ _ t593 t596 t597 t601 t602 _ ?side1 ?side2 A5.out).mono ?_); (case side1 => repeat (first | exact (Kd.N_reads' HO595.out).2.2 | (with_reducible refine Kd.C_alloc ?_ _) | (with_reducible refine Kd.C_drewN ?_ _) | (with_reducible refine Kd.C_drew ?_))); (case side2 => exact (Kd.N_reads' HO595.out).2.1); rintro e w13 ⟨rfl, hb⟩; refine ⟨_, rfl, ?_⟩; replace HO595 := Aside0.mk (Kd.N_below (by (with_reducible repeat (first | apply Kd.N_alloc | apply Kd.N_drewN | apply Kd.N_drew)); exact HO595.out) hb); replace BK598 := bb (bk BK598) hb; replace HB := hbb (hzs HB) hb; clear hb))
  (try simp only [Act.put, List.setIfInBounds_toArray, List.set_cons_zero, List.set_cons_succ])
  go_cut [44] (fun v44 wc => ∃ (kq : Nat) (x44_5 : Bool), v44 = .bool x44_5 ∧ Aside0 (laws_FnExprSure.j0 kq t596 t597 t601 t602 x44_5 t590 t591 t592 t593 = some r) ∧ Aside0 (kq ≤ k) ∧ Aside0 (Kd.N k25 25 wc w.heap.size (fun k_ => k_ ≠ gb598) (.slice Ao10 t593.length co10) t593) ∧ Aside0 (wc.heap[gb598]? = some (.cells #[.int .i64 t590, .int .i64 t591, .int .i64 t592, (.slice Ao10 t593.length co10)] 25 (0, 0))) ∧ Aside0 (Below w.heap.size w wc))
  case first =>
   have H := HC6.out
   clear HC6
   by_cases c14 : (t602 != t600) = true
   ·rw [if_pos c14] at H
    have c14b0 : (t602 != t600) = true := c14
    (try (have c14b1 : decide (t602 = t600) = false := by simpa using c14))
    (try (have c14b2 : (t602 == t600) = false := by simpa using c14))
    (try (have c14b3 : ¬ (t602 = t600) := by simpa using c14))
    clear c14
    (first | rw [c14b0] | (simp only [i64_w, i32_w]; rw [c14b0]) | skip)
    have H' := Aside0.mk H
    clear H
    go_wp2
    go_meet
    case rel => exact ⟨_, (true), (by first | rfl | (simp; done) | (simp [*]; done)), H', ⟨by first | omega | exact Nat.le_refl _⟩, ⟨by (with_reducible repeat (first | apply Kd.N_alloc | apply Kd.N_drewN | apply Kd.N_drew)); exact Kd.N_mono HO595.out (fun _ hk => hk.2)⟩, ⟨bk BK598⟩, ⟨hzs HB⟩⟩
   ·rw [if_neg c14] at H
    have c14b0 : (t602 != t600) = false := by simpa using c14
    (try (have c14b1 : decide (t602 = t600) = true := by simpa using c14))
    (try (have c14b2 : (t602 == t600) = true := by simpa using c14))
    clear c14
    (first | rw [c14b0] | (simp only [i64_w, i32_w]; rw [c14b0]) | skip)
    have H' := Aside0.mk H
    clear H
    go_wp2
    go_meet
    case rel => exact ⟨_, ((t601 != t599)), (by first | rfl | (simp; done) | (simp [*]; done)), H', ⟨by first | omega | exact Nat.le_refl _⟩, ⟨by (with_reducible repeat (first | apply Kd.N_alloc | apply Kd.N_drewN | apply Kd.N_drew)); exact Kd.N_mono HO595.out (fun _ hk => hk.2)⟩, ⟨bk BK598⟩, ⟨hzs HB⟩⟩
  case rest =>
   clear HC6
   try clear c1
   try clear c2
   try clear c2b0
   try clear c2b1
   try clear p2
   try clear c3
   try clear c14
   try clear c14b0
   try clear c14b1
   try clear c14b2
   try clear hcz12_0 hcz12_1 hcz12_2 hcz12_3
   try clear hcz9_0 hcz9_1 hcz9_2 hcz9_3
   try clear hfz12_0 hfz12_1 hfz12_2 hfz12_3
   try clear hfz9_0 hfz9_1 hfz9_2 hfz9_3
   obtain ⟨kq, x44_5, rfl, HA, HJ5, HO_599003, BK598, HB⟩ := hcut
   cases kq with
   | zero => exact absurd HA.out (by simp [laws_FnExprSure.j0])
   | succ kj5 =>
    have H := HA.out
    clear HA
    simp only [laws_FnExprSure.j0] at H
    by_cases c15 : x44_5 = true
    ·subst c15
     have H1 : (some false) = some r := by rw [if_pos rfl] at H; exact H
     clear H
     have H := H1
     clear H1
     obtain rfl := Option.some.inj H
     go_wp2
     go_ret
     exact ⟨by first | rfl | (simp [errW_none, errW_some] <;> rfl) | (simp [*, errW_none, errW_some] <;> rfl), hzs HB⟩
    ·replace c15 := Bool.eq_false_iff.mpr c15
     subst c15
     have H1 : ((impl_ExprSpan.f kj5 t590 t591 t592 t593).bind fun bt603 => ((impl_SureRound.f bt603.1 bt603.2.1 t596 t597).bind fun bt607 => (if bt603.2.2 = true then (if (t602 == bt607.2) = true then (if t602 = true then (some (bt607.1 == t601)) else (some true)) else (some false)) else (if (t602 == false) = true then (if t602 = true then (some (bt607.1 == t601)) else (some true)) else (some false))))) = some r := by rw [if_neg (show ¬ (false = true) by decide)] at H; exact H
     clear H
     have H := H1
     clear H1
     replace H := Option.bind_eq_some_iff.mp H
     obtain ⟨⟨t603, t604, t605⟩, A160, H⟩ := H
     try dsimp only at H
     have A16 := Aside0.mk A160
     clear A160
     replace H := Option.bind_eq_some_iff.mp H
     obtain ⟨⟨t607, t608⟩, A170, H⟩ := H
     try dsimp only at H
     have A17 := Aside0.mk A170
     clear A170
     by_cases c18 : t605 = true
     ·subst c18
      have H1 : (if (t602 == t608) = true then (if t602 = true then (some (t607 == t601)) else (some true)) else (some false)) = some r := by rw [if_pos rfl] at H; exact H
      clear H
      have H := H1
      clear H1
      by_cases c19 : (t602 == t608) = true
      ·rw [if_pos c19] at H
       have c19b0 : (t602 == t608) = true := c19
       (try (have c19b1 : decide (t602 = t608) = true := by simpa using c19))
       (try (have c19b2 : (t602 == t608) = true := by simpa using c19))
       clear c19
       by_cases c20 : t602 = true
       ·subst c20
        have H1 : (some (t607 == t601)) = some r := by rw [if_pos rfl] at H; exact H
        clear H
        have H := H1
        clear H1
        obtain rfl := Option.some.inj H
        have hcz21_0 : wc.cell? ⟨gb598, 0, none⟩ = some (.int .i64 t590) := (blk_cell BK598.out 0).trans rfl
        have hcz21_1 : wc.cell? ⟨gb598, 1, none⟩ = some (.int .i64 t591) := (blk_cell BK598.out 1).trans rfl
        have hcz21_2 : wc.cell? ⟨gb598, 2, none⟩ = some (.int .i64 t592) := (blk_cell BK598.out 2).trans rfl
        have hcz21_3 : wc.cell? ⟨gb598, 3, none⟩ = some (.slice Ao10 t593.length co10) := (blk_cell BK598.out 3).trans rfl
        have hfz21_0 := blk_frozen BK598.out 0
        have hfz21_1 := blk_frozen BK598.out 1
        have hfz21_2 := blk_frozen BK598.out 2
        have hfz21_3 := blk_frozen BK598.out 3
        go_wp2_with (first | ((with_reducible refine gate_callee (f := 18) rfl ?_); refine gL 47 Try.func18 #[.agg #[.int .i64 t590, .int .i64 t591, .int .i64 t592, .slice Ao10 t593.length co10]] ?_; (with_reducible refine (impl_ExprSpan.calls kj5 t590 t591 t592 _ _ t593 t603 t604 true _ ?side1 ?side2 A16.out).mono ?_); (case side1 => repeat (first | exact (Kd.N_reads' HO_599003.out).2.2 | (with_reducible refine Kd.C_alloc ?_ _) | (with_reducible refine Kd.C_drewN ?_ _) | (with_reducible refine Kd.C_drew ?_))); (case side2 => exact (Kd.N_reads' HO_599003.out).2.1); rintro e w22 ⟨rfl, hb⟩; refine ⟨_, rfl, ?_⟩; replace HO_599003 := Aside0.mk (Kd.N_below (by (with_reducible repeat (first | apply Kd.N_alloc | apply Kd.N_drewN | apply Kd.N_drew)); exact HO_599003.out) hb); replace BK598 := bb (bk BK598) hb; replace HB := hbb (hzs HB) hb; clear hb) | ((with_reducible refine gate_dst (N := 10) rfl ?_); refine bE 10 #[.int .i64 0, .int .i64 0] 31 ?_; intro gb606 hg w23 hbox hb; have BK606 := Aside0.mk (hbox); have GE606 := gw hg (hzs HB); have GW606 := GE606; have NB598_606 := nl hg (bk BK598); have NB606_598 := ng hg (bk BK598); replace HO_599003 := Aside0.mk (Kd.N_below (Kd.N_elderB (by (with_reducible repeat (first | apply Kd.N_alloc | apply Kd.N_drewN | apply Kd.N_drew)); exact HO_599003.out) gb606 (Nat.le_of_eq hg.symm)) hb); replace BK598 := bb (bk BK598) hb; replace HB := hbb (hzs HB) hb; clear hb hbox hg; have hnb24 := NB606_598.out; have hnc24 := NB598_606.out; obtain ⟨hcz25_0, hcz25_1, hfz25_0, hfz25_1⟩ := cz2 BK606) | ((with_reducible refine gate_callee (f := 19) rfl ?_); refine gL 54 Try.func19 #[.agg #[.int .i64 t603, .int .i64 t604], .int .i64 t596, .int .i64 t597] ?_; (with_reducible refine (impl_SureRound.calls t603 t604 t596 t597 t607 t608 _ A17.out).mono ?_); rintro e w26 ⟨rfl, hb⟩; refine ⟨_, rfl, ?_⟩; replace HO_599003 := Aside0.mk (Kd.N_below (by (with_reducible repeat (first | apply Kd.N_alloc | apply Kd.N_drewN | apply Kd.N_drew)); exact (Kd.N_mono (Kd.N_far (p := ⟨gb606, 1, none⟩) (Kd.N_far (p := ⟨gb606, 0, none⟩) (Kd.N_mono HO_599003.out (fun k_ hk => (⟨hk, hk.2⟩ : _ ∧ k_ ≠ gb606))) (fun _ hk => hk.2) (.int .i64 t603)) (fun _ hk => hk.2) (.int .i64 t604)) (fun _ h_ => h_.1))) hb); replace BK598 := bb (bk1 BK598 NB598_606) hb; replace BK606 := bb (o := .cells #[.int .i64 t603, .int .i64 t604] 31 (0, 0)) (bkp BK606) hb; replace HB := hbb (hzs HB) hb; clear hb))
        go_ret
        exact ⟨by first | rfl | (simp [errW_none, errW_some] <;> rfl) | (simp [*, errW_none, errW_some] <;> rfl), hzs HB⟩
       ·replace c20 := Bool.eq_false_iff.mpr c20
        subst c20
        have H1 : (some true) = some r := by rw [if_neg (show ¬ (false = true) by decide)] at H; exact H
        clear H
        have H := H1
        clear H1
        obtain rfl := Option.some.inj H
        have hcz27_0 : wc.cell? ⟨gb598, 0, none⟩ = some (.int .i64 t590) := (blk_cell BK598.out 0).trans rfl
        have hcz27_1 : wc.cell? ⟨gb598, 1, none⟩ = some (.int .i64 t591) := (blk_cell BK598.out 1).trans rfl
        have hcz27_2 : wc.cell? ⟨gb598, 2, none⟩ = some (.int .i64 t592) := (blk_cell BK598.out 2).trans rfl
        have hcz27_3 : wc.cell? ⟨gb598, 3, none⟩ = some (.slice Ao10 t593.length co10) := (blk_cell BK598.out 3).trans rfl
        have hfz27_0 := blk_frozen BK598.out 0
        have hfz27_1 := blk_frozen BK598.out 1
        have hfz27_2 := blk_frozen BK598.out 2
        have hfz27_3 := blk_frozen BK598.out 3
        go_wp2_with (first | ((with_reducible refine gate_callee (f := 18) rfl ?_); refine gL 47 Try.func18 #[.agg #[.int .i64 t590, .int .i64 t591, .int .i64 t592, .slice Ao10 t593.length co10]] ?_; (with_reducible refine (impl_ExprSpan.calls kj5 t590 t591 t592 _ _ t593 t603 t604 true _ ?side1 ?side2 A16.out).mono ?_); (case side1 => repeat (first | exact (Kd.N_reads' HO_599003.out).2.2 | (with_reducible refine Kd.C_alloc ?_ _) | (with_reducible refine Kd.C_drewN ?_ _) | (with_reducible refine Kd.C_drew ?_))); (case side2 => exact (Kd.N_reads' HO_599003.out).2.1); rintro e w28 ⟨rfl, hb⟩; refine ⟨_, rfl, ?_⟩; replace HO_599003 := Aside0.mk (Kd.N_below (by (with_reducible repeat (first | apply Kd.N_alloc | apply Kd.N_drewN | apply Kd.N_drew)); exact HO_599003.out) hb); replace BK598 := bb (bk BK598) hb; replace HB := hbb (hzs HB) hb; clear hb) | ((with_reducible refine gate_dst (N := 10) rfl ?_); refine bE 10 #[.int .i64 0, .int .i64 0] 31 ?_; intro gb606 hg w29 hbox hb; have BK606 := Aside0.mk (hbox); have GE606 := gw hg (hzs HB); have GW606 := GE606; have NB598_606 := nl hg (bk BK598); have NB606_598 := ng hg (bk BK598); replace HO_599003 := Aside0.mk (Kd.N_below (Kd.N_elderB (by (with_reducible repeat (first | apply Kd.N_alloc | apply Kd.N_drewN | apply Kd.N_drew)); exact HO_599003.out) gb606 (Nat.le_of_eq hg.symm)) hb); replace BK598 := bb (bk BK598) hb; replace HB := hbb (hzs HB) hb; clear hb hbox hg; have hnb30 := NB606_598.out; have hnc30 := NB598_606.out; obtain ⟨hcz31_0, hcz31_1, hfz31_0, hfz31_1⟩ := cz2 BK606) | ((with_reducible refine gate_callee (f := 19) rfl ?_); refine gL 54 Try.func19 #[.agg #[.int .i64 t603, .int .i64 t604], .int .i64 t596, .int .i64 t597] ?_; (with_reducible refine (impl_SureRound.calls t603 t604 t596 t597 t607 t608 _ A17.out).mono ?_); rintro e w32 ⟨rfl, hb⟩; refine ⟨_, rfl, ?_⟩; replace HO_599003 := Aside0.mk (Kd.N_below (by (with_reducible repeat (first | apply Kd.N_alloc | apply Kd.N_drewN | apply Kd.N_drew)); exact (Kd.N_mono (Kd.N_far (p := ⟨gb606, 1, none⟩) (Kd.N_far (p := ⟨gb606, 0, none⟩) (Kd.N_mono HO_599003.out (fun k_ hk => (⟨hk, hk.2⟩ : _ ∧ k_ ≠ gb606))) (fun _ hk => hk.2) (.int .i64 t603)) (fun _ hk => hk.2) (.int .i64 t604)) (fun _ h_ => h_.1))) hb); replace BK598 := bb (bk1 BK598 NB598_606) hb; replace BK606 := bb (o := .cells #[.int .i64 t603, .int .i64 t604] 31 (0, 0)) (bkp BK606) hb; replace HB := hbb (hzs HB) hb; clear hb))
        go_ret
        exact ⟨by first | rfl | (simp [errW_none, errW_some] <;> rfl) | (simp [*, errW_none, errW_some] <;> rfl), hzs HB⟩
      ·rw [if_neg c19] at H
       have c19b0 : (t602 == t608) = false := by simpa using c19
       (try (have c19b1 : decide (t602 = t608) = false := by simpa using c19))
       (try (have c19b2 : (t602 == t608) = false := by simpa using c19))
       (try (have c19b3 : ¬ (t602 = t608) := by simpa using c19))
       clear c19
       obtain rfl := Option.some.inj H
       have hcz33_0 : wc.cell? ⟨gb598, 0, none⟩ = some (.int .i64 t590) := (blk_cell BK598.out 0).trans rfl
       have hcz33_1 : wc.cell? ⟨gb598, 1, none⟩ = some (.int .i64 t591) := (blk_cell BK598.out 1).trans rfl
       have hcz33_2 : wc.cell? ⟨gb598, 2, none⟩ = some (.int .i64 t592) := (blk_cell BK598.out 2).trans rfl
       have hcz33_3 : wc.cell? ⟨gb598, 3, none⟩ = some (.slice Ao10 t593.length co10) := (blk_cell BK598.out 3).trans rfl
       have hfz33_0 := blk_frozen BK598.out 0
       have hfz33_1 := blk_frozen BK598.out 1
       have hfz33_2 := blk_frozen BK598.out 2
       have hfz33_3 := blk_frozen BK598.out 3
       go_wp2_with (first | ((with_reducible refine gate_callee (f := 18) rfl ?_); refine gL 47 Try.func18 #[.agg #[.int .i64 t590, .int .i64 t591, .int .i64 t592, .slice Ao10 t593.length co10]] ?_; (with_reducible refine (impl_ExprSpan.calls kj5 t590 t591 t592 _ _ t593 t603 t604 true _ ?side1 ?side2 A16.out).mono ?_); (case side1 => repeat (first | exact (Kd.N_reads' HO_599003.out).2.2 | (with_reducible refine Kd.C_alloc ?_ _) | (with_reducible refine Kd.C_drewN ?_ _) | (with_reducible refine Kd.C_drew ?_))); (case side2 => exact (Kd.N_reads' HO_599003.out).2.1); rintro e w34 ⟨rfl, hb⟩; refine ⟨_, rfl, ?_⟩; replace HO_599003 := Aside0.mk (Kd.N_below (by (with_reducible repeat (first | apply Kd.N_alloc | apply Kd.N_drewN | apply Kd.N_drew)); exact HO_599003.out) hb); replace BK598 := bb (bk BK598) hb; replace HB := hbb (hzs HB) hb; clear hb) | ((with_reducible refine gate_dst (N := 10) rfl ?_); refine bE 10 #[.int .i64 0, .int .i64 0] 31 ?_; intro gb606 hg w35 hbox hb; have BK606 := Aside0.mk (hbox); have GE606 := gw hg (hzs HB); have GW606 := GE606; have NB598_606 := nl hg (bk BK598); have NB606_598 := ng hg (bk BK598); replace HO_599003 := Aside0.mk (Kd.N_below (Kd.N_elderB (by (with_reducible repeat (first | apply Kd.N_alloc | apply Kd.N_drewN | apply Kd.N_drew)); exact HO_599003.out) gb606 (Nat.le_of_eq hg.symm)) hb); replace BK598 := bb (bk BK598) hb; replace HB := hbb (hzs HB) hb; clear hb hbox hg; have hnb36 := NB606_598.out; have hnc36 := NB598_606.out; obtain ⟨hcz37_0, hcz37_1, hfz37_0, hfz37_1⟩ := cz2 BK606) | ((with_reducible refine gate_callee (f := 19) rfl ?_); refine gL 54 Try.func19 #[.agg #[.int .i64 t603, .int .i64 t604], .int .i64 t596, .int .i64 t597] ?_; (with_reducible refine (impl_SureRound.calls t603 t604 t596 t597 t607 t608 _ A17.out).mono ?_); rintro e w38 ⟨rfl, hb⟩; refine ⟨_, rfl, ?_⟩; replace HO_599003 := Aside0.mk (Kd.N_below (by (with_reducible repeat (first | apply Kd.N_alloc | apply Kd.N_drewN | apply Kd.N_drew)); exact (Kd.N_mono (Kd.N_far (p := ⟨gb606, 1, none⟩) (Kd.N_far (p := ⟨gb606, 0, none⟩) (Kd.N_mono HO_599003.out (fun k_ hk => (⟨hk, hk.2⟩ : _ ∧ k_ ≠ gb606))) (fun _ hk => hk.2) (.int .i64 t603)) (fun _ hk => hk.2) (.int .i64 t604)) (fun _ h_ => h_.1))) hb); replace BK598 := bb (bk1 BK598 NB598_606) hb; replace BK606 := bb (o := .cells #[.int .i64 t603, .int .i64 t604] 31 (0, 0)) (bkp BK606) hb; replace HB := hbb (hzs HB) hb; clear hb))
       go_ret
       exact ⟨by first | rfl | (simp [errW_none, errW_some] <;> rfl) | (simp [*, errW_none, errW_some] <;> rfl), hzs HB⟩
     ·replace c18 := Bool.eq_false_iff.mpr c18
      subst c18
      have H1 : (if (t602 == false) = true then (if t602 = true then (some (t607 == t601)) else (some true)) else (some false)) = some r := by rw [if_neg (show ¬ (false = true) by decide)] at H; exact H
      clear H
      have H := H1
      clear H1
      by_cases c39 : (t602 == false) = true
      ·rw [if_pos c39] at H
       have c39b0 : (t602 == false) = true := c39
       (try (have c39b1 : decide (t602 = false) = true := by simpa using c39))
       (try (have c39b2 : (t602 == false) = true := by simpa using c39))
       clear c39
       by_cases c40 : t602 = true
       ·subst c40
        have H1 : (some (t607 == t601)) = some r := by rw [if_pos rfl] at H; exact H
        clear H
        have H := H1
        clear H1
        obtain rfl := Option.some.inj H
        have hcz41_0 : wc.cell? ⟨gb598, 0, none⟩ = some (.int .i64 t590) := (blk_cell BK598.out 0).trans rfl
        have hcz41_1 : wc.cell? ⟨gb598, 1, none⟩ = some (.int .i64 t591) := (blk_cell BK598.out 1).trans rfl
        have hcz41_2 : wc.cell? ⟨gb598, 2, none⟩ = some (.int .i64 t592) := (blk_cell BK598.out 2).trans rfl
        have hcz41_3 : wc.cell? ⟨gb598, 3, none⟩ = some (.slice Ao10 t593.length co10) := (blk_cell BK598.out 3).trans rfl
        have hfz41_0 := blk_frozen BK598.out 0
        have hfz41_1 := blk_frozen BK598.out 1
        have hfz41_2 := blk_frozen BK598.out 2
        have hfz41_3 := blk_frozen BK598.out 3
        go_wp2_with (first | ((with_reducible refine gate_callee (f := 18) rfl ?_); refine gL 47 Try.func18 #[.agg #[.int .i64 t590, .int .i64 t591, .int .i64 t592, .slice Ao10 t593.length co10]] ?_; (with_reducible refine (impl_ExprSpan.calls kj5 t590 t591 t592 _ _ t593 t603 t604 false _ ?side1 ?side2 A16.out).mono ?_); (case side1 => repeat (first | exact (Kd.N_reads' HO_599003.out).2.2 | (with_reducible refine Kd.C_alloc ?_ _) | (with_reducible refine Kd.C_drewN ?_ _) | (with_reducible refine Kd.C_drew ?_))); (case side2 => exact (Kd.N_reads' HO_599003.out).2.1); rintro e w42 ⟨rfl, hb⟩; refine ⟨_, rfl, ?_⟩; replace HO_599003 := Aside0.mk (Kd.N_below (by (with_reducible repeat (first | apply Kd.N_alloc | apply Kd.N_drewN | apply Kd.N_drew)); exact HO_599003.out) hb); replace BK598 := bb (bk BK598) hb; replace HB := hbb (hzs HB) hb; clear hb) | ((with_reducible refine gate_dst (N := 10) rfl ?_); refine bE 10 #[.int .i64 0, .int .i64 0] 31 ?_; intro gb606 hg w43 hbox hb; have BK606 := Aside0.mk (hbox); have GE606 := gw hg (hzs HB); have GW606 := GE606; have NB598_606 := nl hg (bk BK598); have NB606_598 := ng hg (bk BK598); replace HO_599003 := Aside0.mk (Kd.N_below (Kd.N_elderB (by (with_reducible repeat (first | apply Kd.N_alloc | apply Kd.N_drewN | apply Kd.N_drew)); exact HO_599003.out) gb606 (Nat.le_of_eq hg.symm)) hb); replace BK598 := bb (bk BK598) hb; replace HB := hbb (hzs HB) hb; clear hb hbox hg; have hnb44 := NB606_598.out; have hnc44 := NB598_606.out; obtain ⟨hcz45_0, hcz45_1, hfz45_0, hfz45_1⟩ := cz2 BK606) | ((with_reducible refine gate_callee (f := 19) rfl ?_); refine gL 54 Try.func19 #[.agg #[.int .i64 t603, .int .i64 t604], .int .i64 t596, .int .i64 t597] ?_; (with_reducible refine (impl_SureRound.calls t603 t604 t596 t597 t607 t608 _ A17.out).mono ?_); rintro e w46 ⟨rfl, hb⟩; refine ⟨_, rfl, ?_⟩; replace HO_599003 := Aside0.mk (Kd.N_below (by (with_reducible repeat (first | apply Kd.N_alloc | apply Kd.N_drewN | apply Kd.N_drew)); exact (Kd.N_mono (Kd.N_far (p := ⟨gb606, 1, none⟩) (Kd.N_far (p := ⟨gb606, 0, none⟩) (Kd.N_mono HO_599003.out (fun k_ hk => (⟨hk, hk.2⟩ : _ ∧ k_ ≠ gb606))) (fun _ hk => hk.2) (.int .i64 t603)) (fun _ hk => hk.2) (.int .i64 t604)) (fun _ h_ => h_.1))) hb); replace BK598 := bb (bk1 BK598 NB598_606) hb; replace BK606 := bb (o := .cells #[.int .i64 t603, .int .i64 t604] 31 (0, 0)) (bkp BK606) hb; replace HB := hbb (hzs HB) hb; clear hb))
        go_ret
        exact ⟨by first | rfl | (simp [errW_none, errW_some] <;> rfl) | (simp [*, errW_none, errW_some] <;> rfl), hzs HB⟩
       ·replace c40 := Bool.eq_false_iff.mpr c40
        subst c40
        have H1 : (some true) = some r := by rw [if_neg (show ¬ (false = true) by decide)] at H; exact H
        clear H
        have H := H1
        clear H1
        obtain rfl := Option.some.inj H
        have hcz47_0 : wc.cell? ⟨gb598, 0, none⟩ = some (.int .i64 t590) := (blk_cell BK598.out 0).trans rfl
        have hcz47_1 : wc.cell? ⟨gb598, 1, none⟩ = some (.int .i64 t591) := (blk_cell BK598.out 1).trans rfl
        have hcz47_2 : wc.cell? ⟨gb598, 2, none⟩ = some (.int .i64 t592) := (blk_cell BK598.out 2).trans rfl
        have hcz47_3 : wc.cell? ⟨gb598, 3, none⟩ = some (.slice Ao10 t593.length co10) := (blk_cell BK598.out 3).trans rfl
        have hfz47_0 := blk_frozen BK598.out 0
        have hfz47_1 := blk_frozen BK598.out 1
        have hfz47_2 := blk_frozen BK598.out 2
        have hfz47_3 := blk_frozen BK598.out 3
        go_wp2_with (first | ((with_reducible refine gate_callee (f := 18) rfl ?_); refine gL 47 Try.func18 #[.agg #[.int .i64 t590, .int .i64 t591, .int .i64 t592, .slice Ao10 t593.length co10]] ?_; (with_reducible refine (impl_ExprSpan.calls kj5 t590 t591 t592 _ _ t593 t603 t604 false _ ?side1 ?side2 A16.out).mono ?_); (case side1 => repeat (first | exact (Kd.N_reads' HO_599003.out).2.2 | (with_reducible refine Kd.C_alloc ?_ _) | (with_reducible refine Kd.C_drewN ?_ _) | (with_reducible refine Kd.C_drew ?_))); (case side2 => exact (Kd.N_reads' HO_599003.out).2.1); rintro e w48 ⟨rfl, hb⟩; refine ⟨_, rfl, ?_⟩; replace HO_599003 := Aside0.mk (Kd.N_below (by (with_reducible repeat (first | apply Kd.N_alloc | apply Kd.N_drewN | apply Kd.N_drew)); exact HO_599003.out) hb); replace BK598 := bb (bk BK598) hb; replace HB := hbb (hzs HB) hb; clear hb) | ((with_reducible refine gate_dst (N := 10) rfl ?_); refine bE 10 #[.int .i64 0, .int .i64 0] 31 ?_; intro gb606 hg w49 hbox hb; have BK606 := Aside0.mk (hbox); have GE606 := gw hg (hzs HB); have GW606 := GE606; have NB598_606 := nl hg (bk BK598); have NB606_598 := ng hg (bk BK598); replace HO_599003 := Aside0.mk (Kd.N_below (Kd.N_elderB (by (with_reducible repeat (first | apply Kd.N_alloc | apply Kd.N_drewN | apply Kd.N_drew)); exact HO_599003.out) gb606 (Nat.le_of_eq hg.symm)) hb); replace BK598 := bb (bk BK598) hb; replace HB := hbb (hzs HB) hb; clear hb hbox hg; have hnb50 := NB606_598.out; have hnc50 := NB598_606.out; obtain ⟨hcz51_0, hcz51_1, hfz51_0, hfz51_1⟩ := cz2 BK606) | ((with_reducible refine gate_callee (f := 19) rfl ?_); refine gL 54 Try.func19 #[.agg #[.int .i64 t603, .int .i64 t604], .int .i64 t596, .int .i64 t597] ?_; (with_reducible refine (impl_SureRound.calls t603 t604 t596 t597 t607 t608 _ A17.out).mono ?_); rintro e w52 ⟨rfl, hb⟩; refine ⟨_, rfl, ?_⟩; replace HO_599003 := Aside0.mk (Kd.N_below (by (with_reducible repeat (first | apply Kd.N_alloc | apply Kd.N_drewN | apply Kd.N_drew)); exact (Kd.N_mono (Kd.N_far (p := ⟨gb606, 1, none⟩) (Kd.N_far (p := ⟨gb606, 0, none⟩) (Kd.N_mono HO_599003.out (fun k_ hk => (⟨hk, hk.2⟩ : _ ∧ k_ ≠ gb606))) (fun _ hk => hk.2) (.int .i64 t603)) (fun _ hk => hk.2) (.int .i64 t604)) (fun _ h_ => h_.1))) hb); replace BK598 := bb (bk1 BK598 NB598_606) hb; replace BK606 := bb (o := .cells #[.int .i64 t603, .int .i64 t604] 31 (0, 0)) (bkp BK606) hb; replace HB := hbb (hzs HB) hb; clear hb))
        go_ret
        exact ⟨by first | rfl | (simp [errW_none, errW_some] <;> rfl) | (simp [*, errW_none, errW_some] <;> rfl), hzs HB⟩
      ·rw [if_neg c39] at H
       have c39b0 : (t602 == false) = false := by simpa using c39
       (try (have c39b1 : decide (t602 = false) = false := by simpa using c39))
       (try (have c39b2 : (t602 == false) = false := by simpa using c39))
       (try (have c39b3 : ¬ (t602 = false) := by simpa using c39))
       clear c39
       obtain rfl := Option.some.inj H
       have hcz53_0 : wc.cell? ⟨gb598, 0, none⟩ = some (.int .i64 t590) := (blk_cell BK598.out 0).trans rfl
       have hcz53_1 : wc.cell? ⟨gb598, 1, none⟩ = some (.int .i64 t591) := (blk_cell BK598.out 1).trans rfl
       have hcz53_2 : wc.cell? ⟨gb598, 2, none⟩ = some (.int .i64 t592) := (blk_cell BK598.out 2).trans rfl
       have hcz53_3 : wc.cell? ⟨gb598, 3, none⟩ = some (.slice Ao10 t593.length co10) := (blk_cell BK598.out 3).trans rfl
       have hfz53_0 := blk_frozen BK598.out 0
       have hfz53_1 := blk_frozen BK598.out 1
       have hfz53_2 := blk_frozen BK598.out 2
       have hfz53_3 := blk_frozen BK598.out 3
       go_wp2_with (first | ((with_reducible refine gate_callee (f := 18) rfl ?_); refine gL 47 Try.func18 #[.agg #[.int .i64 t590, .int .i64 t591, .int .i64 t592, .slice Ao10 t593.length co10]] ?_; (with_reducible refine (impl_ExprSpan.calls kj5 t590 t591 t592 _ _ t593 t603 t604 false _ ?side1 ?side2 A16.out).mono ?_); (case side1 => repeat (first | exact (Kd.N_reads' HO_599003.out).2.2 | (with_reducible refine Kd.C_alloc ?_ _) | (with_reducible refine Kd.C_drewN ?_ _) | (with_reducible refine Kd.C_drew ?_))); (case side2 => exact (Kd.N_reads' HO_599003.out).2.1); rintro e w54 ⟨rfl, hb⟩; refine ⟨_, rfl, ?_⟩; replace HO_599003 := Aside0.mk (Kd.N_below (by (with_reducible repeat (first | apply Kd.N_alloc | apply Kd.N_drewN | apply Kd.N_drew)); exact HO_599003.out) hb); replace BK598 := bb (bk BK598) hb; replace HB := hbb (hzs HB) hb; clear hb) | ((with_reducible refine gate_dst (N := 10) rfl ?_); refine bE 10 #[.int .i64 0, .int .i64 0] 31 ?_; intro gb606 hg w55 hbox hb; have BK606 := Aside0.mk (hbox); have GE606 := gw hg (hzs HB); have GW606 := GE606; have NB598_606 := nl hg (bk BK598); have NB606_598 := ng hg (bk BK598); replace HO_599003 := Aside0.mk (Kd.N_below (Kd.N_elderB (by (with_reducible repeat (first | apply Kd.N_alloc | apply Kd.N_drewN | apply Kd.N_drew)); exact HO_599003.out) gb606 (Nat.le_of_eq hg.symm)) hb); replace BK598 := bb (bk BK598) hb; replace HB := hbb (hzs HB) hb; clear hb hbox hg; have hnb56 := NB606_598.out; have hnc56 := NB598_606.out; obtain ⟨hcz57_0, hcz57_1, hfz57_0, hfz57_1⟩ := cz2 BK606) | ((with_reducible refine gate_callee (f := 19) rfl ?_); refine gL 54 Try.func19 #[.agg #[.int .i64 t603, .int .i64 t604], .int .i64 t596, .int .i64 t597] ?_; (with_reducible refine (impl_SureRound.calls t603 t604 t596 t597 t607 t608 _ A17.out).mono ?_); rintro e w58 ⟨rfl, hb⟩; refine ⟨_, rfl, ?_⟩; replace HO_599003 := Aside0.mk (Kd.N_below (by (with_reducible repeat (first | apply Kd.N_alloc | apply Kd.N_drewN | apply Kd.N_drew)); exact (Kd.N_mono (Kd.N_far (p := ⟨gb606, 1, none⟩) (Kd.N_far (p := ⟨gb606, 0, none⟩) (Kd.N_mono HO_599003.out (fun k_ hk => (⟨hk, hk.2⟩ : _ ∧ k_ ≠ gb606))) (fun _ hk => hk.2) (.int .i64 t603)) (fun _ hk => hk.2) (.int .i64 t604)) (fun _ h_ => h_.1))) hb); replace BK598 := bb (bk1 BK598 NB598_606) hb; replace BK606 := bb (o := .cells #[.int .i64 t603, .int .i64 t604] 31 (0, 0)) (bkp BK606) hb; replace HB := hbb (hzs HB) hb; clear hb))
       go_ret
       exact ⟨by first | rfl | (simp [errW_none, errW_some] <;> rfl) | (simp [*, errW_none, errW_some] <;> rfl), hzs HB⟩


theorem way_tells {b : List Int} (hb : Bytes b) (hl : b.length ≤ 2000) {p : Int} (hp : 0 ≤ p) (hp2 : p < 999000) {k : Nat} (hk : 20 ≤ k) : ∃ v p', spec_l71Way.f k b p = some (v, p') := by
 unfold spec_l71Way.f
 obtain ⟨v, s1, s2, s3⟩ := pick_tells hb hl hp (by omega) (show (20 : Int) < 1073741824 by omega) (k := k) (by omega)
 rw [s1]; simp only [Option.bind_some]
 obtain ⟨x, t1, t2, t3⟩ := pick_tells hb hl (show 0 ≤ p + 1 by omega) (by omega) (show (3 : Int) < 1073741824 by omega) (k := k) (by omega)
 obtain ⟨y, u1, u2, u3⟩ := pick_tells hb hl (show 0 ≤ p + 1 by omega) (by omega) (show (4 : Int) < 1073741824 by omega) (k := k) (by omega)
 rw [t1, u1]; simp only [Option.bind_some]
 by_cases c0 : v = 0
 ·rw [if_pos c0, if_pos t2, if_pos (by simp; omega)]; exact ⟨_, _, rfl⟩
 ·rw [if_neg c0]; exact ⟨_, _, rfl⟩
theorem drawExprRound_tells {l : List Int} (hl : Bytes l) {k : Nat} (hk : 1400 ≤ k) : ∃ f0 f1 f2 m parts way, spec_DrawExprRound.f k l = some (f0, f1, f2, m, parts, way) ∧ nodes ⟨f0, f1, f2, m⟩ ≤ 63 := by
 unfold spec_DrawExprRound.f
 obtain ⟨b, h1, h2, h3⟩ := open_tells hl
 rw [h1]; simp only [Option.bind_some]
 obtain ⟨g0, g1, g2, m, p, q1, q2, q3, q4⟩ := bent_tells h2 h3 false (show (0 : Int) ≤ 0 by omega) (by omega) (k := k) (by omega)
 rw [q1]; simp only [Option.bind_some]
 obtain ⟨v, s1, s2, s3⟩ := pick_tells h2 h3 q3 (by omega) (show (6 : Int) < 1073741824 by omega) (k := k) (by omega)
 rw [s1]; simp only [Option.bind_some]
 rw [if_pos s2, if_pos (by simp; omega)]
 obtain ⟨x, p2, t1⟩ := way_tells h2 h3 (show 0 ≤ p + 1 by omega) (by omega) (k := k) (by omega)
 rw [t1]; simp only [Option.bind_some]
 exact ⟨_, _, _, _, _, _, rfl, q2⟩
theorem FnExprSure_pure {l0 : List Int} (hl : Bytes l0) {k : Nat} (hk : 3000 ≤ k) : laws_FnExprSure.f k l0 = some true := by
 unfold laws_FnExprSure.f
 by_cases h : (l0.length : Int) > 1048576
 ·rw [if_pos h]
 rw [if_neg h]
 obtain ⟨f0, f1, f2, m, parts, way, q, hn⟩ := drawExprRound_tells hl (k := k) (by omega)
 rw [q]; simp only [Option.bind_some]
 have e1 := ExprRound_is (e := ⟨f0, f1, f2, m⟩) (by omega) parts way (k := k) (by omega)
 dsimp only at e1
 rw [e1.1, e1.2]
 simp only [Option.bind_some, bne_self_eq_false, Bool.false_eq_true, if_false]
 obtain ⟨k, rfl⟩ : ∃ q, k = q + 1 := ⟨k - 1, by omega⟩
 rw [laws_FnExprSure.j0, if_neg (show ¬ (false = true) by decide)]
 have e2 := ExprSpan_is (e := ⟨f0, f1, f2, m⟩) (by omega) (k := k) (by omega)
 dsimp only at e2
 rw [e2.1]
 simp only [Option.bind_some]
 by_cases c : (exprR ⟨f0, f1, f2, m⟩).2.2 = true
 ·have s := SureRound_is (parts := parts) (way := way) ((exprR_ok _).pair c) (k := k) (by omega)
  dsimp only at s
  have r : roundR ⟨f0, f1, f2, m⟩ parts way = sureR ((exprR ⟨f0, f1, f2, m⟩).1, (exprR ⟨f0, f1, f2, m⟩).2.1) parts way := if_pos c
  rw [s.1, r]
  simp only [Option.bind_some, c, if_true, beq_self_eq_true]
  split <;> rfl
 ·have r : roundR ⟨f0, f1, f2, m⟩ parts way = (0, false) := if_neg c
  have z := (exprR_ok ⟨f0, f1, f2, m⟩).none c
  have s := SureRound_is (f := (0, 0)) (parts := parts) (way := way) ok00 (k := k) (by omega)
  dsimp only at s
  rw [z, r]
  dsimp only
  rw [s.1]
  simp
theorem FnExprSure_true (A0 : Option Addr) (c0 : Nat) (l0 : List Int) (w : World) (hr0 : Kd.C (Kd.int .u8) w A0 l0.length l0) (hc0 : l0.length ≤ c0) (hw0 : ∀ x ∈ l0, (Lit.int .u8 x).wf = true) :
  Calls Try.prog 3 #[.slice A0 l0.length c0] w fun e w' => e = .returned (.bool true) ∧ Below w.heap.size w w' :=
 laws_FnExprSure.calls 3000 A0 c0 l0 true w hr0 hc0 (FnExprSure_pure (bytes_of hw0) (by omega))

end Go.Proofs.Ytlodpfddimeffaa.M
