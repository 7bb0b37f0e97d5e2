import Derived.Test.YtlodpfddimeffaaP8
import Derived.Test.YtlodpfddimeffaaP9
import Derived.Test.YtlodpfddimeffaaDd
namespace Go.Proofs.Ytlodpfddimeffaa.M
open Go.RowKit Go.Proofs.YtlodpfddimeffaaW.PrintWords Go.Proofs.YtlodpfddimeffaaW.PrintLast Go.Proofs.YtlodpfddimeffaaW.PrintMore
attribute [local go_sem] max2_int min2_int max_two min_two max_three min_three max_four min_four
attribute [local go_sem high] eqA31
attribute [local go_sem] fld31_0 fld31_1 fld25_0 fld25_1 fld25_2 fld25_3
set_option linter.unusedVariables false
set_option linter.unusedSimpArgs false
/-! ### laws_FnExprTop: function 6 -/
def laws_FnExprTop.j0 : Nat → Int → Int → Bool → Int → Int → Bool → Bool → Int → Int → Int → List (S25) → Option (Bool)
 | 0, _, _, _, _, _, _, _, _, _, _, _ => none
 | k + 1, x4, x5, x6, x7, x8, x9, x45, x583000, x583001, x583002, x583003 => if x45 = true then (if (x9 == x6) = true then (if x7 = x4 then (some (x8 == x5)) else (some false)) else (some false)) else ((impl_ExprSpan.f k x583000 x583001 x583002 x583003).bind fun bt589 => (if bt589.2.2 = true then ((impl_SpanHas.f bt589.1 bt589.2.1 x7 x8).bind fun t593 => (some t593)) else (some true)))
def laws_FnExprTop.f (k : Nat) (l0 : List Int) : Option (Bool) := if (l0.length : Int) > 1048576 then (some true) else ((spec_DrawExprRat.f k l0).bind fun bt576 => ((spec_ExprRat.f k bt576.1 bt576.2.1 bt576.2.2.1 bt576.2.2.2).bind fun bt583 => ((impl_ExprRat.f k bt576.1 bt576.2.1 bt576.2.2.1 bt576.2.2.2).bind fun bt586 => (if (bt586.2.2 != bt583.2.2) = true then (laws_FnExprTop.j0 k bt583.1 bt583.2.1 bt583.2.2 bt586.1 bt586.2.1 bt586.2.2 true bt576.1 bt576.2.1 bt576.2.2.1 bt576.2.2.2) else (if bt586.1 = bt583.1 then (if bt586.2.1 = bt583.2.1 then (laws_FnExprTop.j0 k bt583.1 bt583.2.1 bt583.2.2 bt586.1 bt586.2.1 bt586.2.2 (!bt586.2.2) bt576.1 bt576.2.1 bt576.2.2.1 bt576.2.2.2) else (laws_FnExprTop.j0 k bt583.1 bt583.2.1 bt583.2.2 bt586.1 bt586.2.1 bt586.2.2 true bt576.1 bt576.2.1 bt576.2.2.1 bt576.2.2.2)) else (laws_FnExprTop.j0 k bt583.1 bt583.2.1 bt583.2.2 bt586.1 bt586.2.1 bt586.2.2 true bt576.1 bt576.2.1 bt576.2.2.1 bt576.2.2.2))))))
set_option maxHeartbeats 8000000 in
set_option maxRecDepth 100000 in
theorem laws_FnExprTop.calls (k : Nat) (A0 : Option Addr) (c0 : Nat) (l0 : List Int) (r : Bool) (w : World) (hr0 : Kd.C (Kd.int .u8) w A0 l0.length l0) (hc0 : l0.length ≤ c0) (h : laws_FnExprTop.f k l0 = some r) :
  Calls Try.prog 6 #[.slice A0 l0.length c0] w fun e w' => e = .returned (.bool r) ∧ Below w.heap.size w w' := by
 have hu25 := Try.underlying25
 have hu31 := Try.underlying31
 have HR0 := Aside0.mk hr0
 have HC0 := Aside0.mk hc0
 clear hr0 hc0
 have HB := Aside0.mk (Below.refl w.heap.size w)
 have H := h
 clear h
 unfold laws_FnExprTop.f at H
 by_cases c2 : (l0.length : Int) > 1048576
 ·rw [if_pos c2] at H
  have c2b0 : decide (1048576 < (l0.length : Int)) = true := decide_eq_true c2
  have c2b1 : decide (1048576 < l0.length) = true := decide_eq_true (by omega)
  clear c2
  obtain rfl := Option.some.inj H
  go_enter Try.func6, Try.ntmps6
  go_wp2
  go_ret
  exact ⟨by first | rfl | (simp [errW_none, errW_some] <;> rfl) | (simp [*, errW_none, errW_some] <;> rfl), hz0 HB⟩
 ·rw [if_neg c2] at H
  have c2b0 : decide (1048576 < (l0.length : Int)) = false := decide_eq_false c2
  have c2b1 : decide (1048576 < l0.length) = false := decide_eq_false (by omega)
  clear c2
  replace H := Option.bind_eq_some_iff.mp H
  obtain ⟨⟨t576, t577, t578, t579⟩, A30, H⟩ := H
  try dsimp only at H
  have A3 := Aside0.mk A30
  clear A30
  replace H := Option.bind_eq_some_iff.mp H
  obtain ⟨⟨t583, t584, t585⟩, A40, H⟩ := H
  try dsimp only at H
  have A4 := Aside0.mk A40
  clear A40
  replace H := Option.bind_eq_some_iff.mp H
  obtain ⟨⟨t586, t587, t588⟩, A50, H⟩ := H
  try dsimp only at H
  have A5 := Aside0.mk A50
  clear A50
  have HC6 := Aside0.mk H
  clear H
  go_enter Try.func6, Try.ntmps6
  go_upto_region 6 with (first | ((with_reducible refine gate_callee (f := 27) rfl ?_); refine gL 16 Try.func27 #[.slice A0 l0.length c0] ?_; (with_reducible refine (spec_DrawExprRat.calls k _ _ l0 t576 t577 t578 t579 _ ?side1 ?side2 A3.out).mono ?_); (case side1 => repeat (first | exact HR0.out | (with_reducible refine Kd.C_alloc ?_ _) | (with_reducible refine Kd.C_drewN ?_ _) | (with_reducible refine Kd.C_drew ?_))); (case side2 => exact HC0.out); rintro e w7 ⟨v580, rfl, ho0, hb⟩; refine ⟨_, rfl, ?_⟩; have HO581 := Aside0.mk (Kd.N_lower (Kd.N_mono (ok' := fun k_ => True) ho0 (fun k_ hk_ => trivial)) (below_size (hz0 HB))); replace HB := hbb (hz0 HB) hb; (try clear hb); (try clear hb2); (try clear hk); (try clear hi); (try clear ho0)) | ((with_reducible refine gate_dst (N := 3) rfl ?_); refine bE 3 #[.int .i64 0, .int .i64 0, .int .i64 0, .slice none 0 0] 25 ?_; intro gb582 hg w8 hbox hb; have BK582 := Aside0.mk (hbox); have GE582 := gw hg (hz0 HB); replace HO581 := Aside0.mk (Kd.N_below (Kd.N_elderB (by (with_reducible repeat (first | apply Kd.N_alloc | apply Kd.N_drewN | apply Kd.N_drew)); exact HO581.out) gb582 (Nat.le_of_eq hg.symm)) hb); replace HB := hbb (hz0 HB) hb; clear hb hbox hg; obtain ⟨hcz9_0, hcz9_1, hcz9_2, hcz9_3, hfz9_0, hfz9_1, hfz9_2, hfz9_3⟩ := cz4 BK582; obtain ⟨Ao10, co10, eo10⟩ := Kd.N_slice HO581.out; subst eo10) | ((with_reducible refine gate_callee (f := 25) rfl ?_); refine gL 19 Try.func25 #[.agg #[.int .i64 t576, .int .i64 t577, .int .i64 t578, .slice Ao10 t579.length co10]] ?_; (with_reducible refine (spec_ExprRat.calls k t576 t577 t578 _ _ t579 t583 t584 t585 _ ?side1 ?side2 A4.out).mono ?_); (case side1 => refine (Kd.N_reads' (e := 25) (base := w.heap.size) (ok := fun k_ => (True ∧ k_ ≠ gb582)) (n := t579.length) (c := co10) ?_).2.2; exact (by (with_reducible repeat (first | apply Kd.N_alloc | apply Kd.N_drewN | apply Kd.N_drew)); exact (Kd.N_mono (Kd.N_far (p := ⟨gb582, 3, none⟩) (Kd.N_far (p := ⟨gb582, 2, none⟩) (Kd.N_far (p := ⟨gb582, 1, none⟩) (Kd.N_far (p := ⟨gb582, 0, none⟩) (Kd.N_mono HO581.out (fun k_ hk => (⟨hk, hk.2⟩ : _ ∧ k_ ≠ gb582))) (fun _ hk => hk.2) (.int .i64 t576)) (fun _ hk => hk.2) (.int .i64 t577)) (fun _ hk => hk.2) (.int .i64 t578)) (fun _ hk => hk.2) (.slice Ao10 t579.length co10)) (fun _ h_ => h_.1)))); (case side2 => exact (Kd.N_reads' HO581.out).2.1); rintro e w11 ⟨rfl, hb⟩; refine ⟨_, rfl, ?_⟩; replace HO581 := Aside0.mk (Kd.N_below (by (with_reducible repeat (first | apply Kd.N_alloc | apply Kd.N_drewN | apply Kd.N_drew)); exact (Kd.N_mono (Kd.N_far (p := ⟨gb582, 3, none⟩) (Kd.N_far (p := ⟨gb582, 2, none⟩) (Kd.N_far (p := ⟨gb582, 1, none⟩) (Kd.N_far (p := ⟨gb582, 0, none⟩) (Kd.N_mono HO581.out (fun k_ hk => (⟨hk, hk.2⟩ : _ ∧ k_ ≠ gb582))) (fun _ hk => hk.2) (.int .i64 t576)) (fun _ hk => hk.2) (.int .i64 t577)) (fun _ hk => hk.2) (.int .i64 t578)) (fun _ hk => hk.2) (.slice Ao10 t579.length co10)) (fun _ h_ => h_.1))) hb); replace BK582 := Aside0.mk (blk_below (g := gb582) (o := .cells #[.int .i64 t576, .int .i64 t577, .int .i64 t578, .slice Ao10 t579.length co10] 25 (0, 0)) (by (with_reducible repeat (first | refine blk_drewN ?_ _ | refine blk_drew ?_ | refine blk_alloc ?_ _)); refine blk_put (cs := #[.int .i64 t576, .int .i64 t577, .int .i64 t578, .slice none 0 0]) ?_ 3 _ rfl; (with_reducible repeat (first | refine blk_drewN ?_ _ | refine blk_drew ?_ | refine blk_alloc ?_ _)); refine blk_put (cs := #[.int .i64 t576, .int .i64 t577, .int .i64 0, .slice none 0 0]) ?_ 2 _ rfl; (with_reducible repeat (first | refine blk_drewN ?_ _ | refine blk_drew ?_ | refine blk_alloc ?_ _)); refine blk_put (cs := #[.int .i64 t576, .int .i64 0, .int .i64 0, .slice none 0 0]) ?_ 1 _ rfl; (with_reducible repeat (first | refine blk_drewN ?_ _ | refine blk_drew ?_ | refine blk_alloc ?_ _)); refine blk_put (cs := #[.int .i64 0, .int .i64 0, .int .i64 0, .slice none 0 0]) ?_ 0 _ rfl; (with_reducible repeat (first | refine blk_drewN ?_ _ | refine blk_drew ?_ | refine blk_alloc ?_ _)); exact BK582.out) hb); replace HB := hbb (hzs HB) hb; clear hb; obtain ⟨hcz12_0, hcz12_1, hcz12_2, hcz12_3, hfz12_0, hfz12_1, hfz12_2, hfz12_3⟩ := cz4 BK582) | ((with_reducible refine gate_callee (f := 26) rfl ?_); refine gL 25 Try.func26 #[.agg #[.int .i64 t576, .int .i64 t577, .int .i64 t578, .slice Ao10 t579.length co10]] ?_; (with_reducible refine (impl_ExprRat.calls k t576 t577 t578 _ _ t579 t586 t587 t588 _ ?side1 ?side2 A5.out).mono ?_); (case side1 => repeat (first | exact (Kd.N_reads' HO581.out).2.2 | (with_reducible refine Kd.C_alloc ?_ _) | (with_reducible refine Kd.C_drewN ?_ _) | (with_reducible refine Kd.C_drew ?_))); (case side2 => exact (Kd.N_reads' HO581.out).2.1); rintro e w13 ⟨rfl, hb⟩; refine ⟨_, rfl, ?_⟩; replace HO581 := Aside0.mk (Kd.N_below (by (with_reducible repeat (first | apply Kd.N_alloc | apply Kd.N_drewN | apply Kd.N_drew)); exact HO581.out) hb); replace BK582 := bb (bk BK582) hb; replace HB := hbb (hzs HB) hb; clear hb))
  (try simp only [Act.put, List.setIfInBounds_toArray, List.set_cons_zero, List.set_cons_succ])
  go_cut [45] (fun v45 wc => ∃ (kq : Nat) (x45_5 : Bool), v45 = .bool x45_5 ∧ Aside0 (laws_FnExprTop.j0 kq t583 t584 t585 t586 t587 t588 x45_5 t576 t577 t578 t579 = some r) ∧ Aside0 (kq ≤ k) ∧ Aside0 (Kd.N k25 25 wc w.heap.size (fun k_ => k_ ≠ gb582) (.slice Ao10 t579.length co10) t579) ∧ Aside0 (wc.heap[gb582]? = some (.cells #[.int .i64 t576, .int .i64 t577, .int .i64 t578, (.slice Ao10 t579.length co10)] 25 (0, 0))) ∧ Aside0 (Below w.heap.size w wc))
  case first =>
   have H := HC6.out
   clear HC6
   by_cases c14 : (t588 != t585) = true
   ·rw [if_pos c14] at H
    have c14b0 : (t588 != t585) = true := c14
    (try (have c14b1 : decide (t588 = t585) = false := by simpa using c14))
    (try (have c14b2 : (t588 == t585) = false := by simpa using c14))
    (try (have c14b3 : ¬ (t588 = t585) := by simpa using c14))
    clear c14
    (first | rw [c14b0] | (simp only [i64_w, i32_w]; rw [c14b0]) | skip)
    have H' := Aside0.mk H
    clear H
    go_wp2
    go_meet
    case rel => exact ⟨_, (true), (by first | rfl | (simp; done) | (simp [*]; done)), H', ⟨by first | omega | exact Nat.le_refl _⟩, ⟨by (with_reducible repeat (first | apply Kd.N_alloc | apply Kd.N_drewN | apply Kd.N_drew)); exact Kd.N_mono HO581.out (fun _ hk => hk.2)⟩, ⟨bk BK582⟩, ⟨hzs HB⟩⟩
   ·rw [if_neg c14] at H
    have c14b0 : (t588 != t585) = false := by simpa using c14
    (try (have c14b1 : decide (t588 = t585) = true := by simpa using c14))
    (try (have c14b2 : (t588 == t585) = true := by simpa using c14))
    clear c14
    (first | rw [c14b0] | (simp only [i64_w, i32_w]; rw [c14b0]) | skip)
    by_cases c15 : t586 = t583
    ·rw [if_pos c15] at H
     have c15b0 : (t586 == t583) = true := beq_iff_eq.mpr c15
     have c15b1 : (t586 != t583) = false := bne_eq_false_iff_eq.mpr c15
     clear c15
     by_cases c16 : t587 = t584
     ·rw [if_pos c16] at H
      have c16b0 : (t587 == t584) = true := beq_iff_eq.mpr c16
      have c16b1 : (t587 != t584) = false := bne_eq_false_iff_eq.mpr c16
      clear c16
      have H' := Aside0.mk H
      clear H
      go_wp2
      go_meet
      case rel => exact ⟨_, (!t588), (by first | rfl | (simp; done) | (simp [*]; done)), H', ⟨by first | omega | exact Nat.le_refl _⟩, ⟨by (with_reducible repeat (first | apply Kd.N_alloc | apply Kd.N_drewN | apply Kd.N_drew)); exact Kd.N_mono HO581.out (fun _ hk => hk.2)⟩, ⟨bk BK582⟩, ⟨hzs HB⟩⟩
     ·rw [if_neg c16] at H
      have c16b0 : (t587 == t584) = false := beq_eq_false_iff_ne.mpr c16
      have c16b1 : (t587 != t584) = true := bne_iff_ne.mpr c16
      have H' := Aside0.mk H
      clear H
      go_wp2
      go_meet
      case rel => exact ⟨_, (true), (by first | rfl | (simp; done) | (simp [*]; done)), H', ⟨by first | omega | exact Nat.le_refl _⟩, ⟨by (with_reducible repeat (first | apply Kd.N_alloc | apply Kd.N_drewN | apply Kd.N_drew)); exact Kd.N_mono HO581.out (fun _ hk => hk.2)⟩, ⟨bk BK582⟩, ⟨hzs HB⟩⟩
    ·rw [if_neg c15] at H
     have c15b0 : (t586 == t583) = false := beq_eq_false_iff_ne.mpr c15
     have c15b1 : (t586 != t583) = true := bne_iff_ne.mpr c15
     have H' := Aside0.mk H
     clear H
     go_wp2
     go_meet
     case rel => exact ⟨_, (true), (by first | rfl | (simp; done) | (simp [*]; done)), H', ⟨by first | omega | exact Nat.le_refl _⟩, ⟨by (with_reducible repeat (first | apply Kd.N_alloc | apply Kd.N_drewN | apply Kd.N_drew)); exact Kd.N_mono HO581.out (fun _ hk => hk.2)⟩, ⟨bk BK582⟩, ⟨hzs HB⟩⟩
  case rest =>
   clear HC6
   try clear c1
   try clear c2
   try clear c2b0
   try clear c2b1
   try clear p2
   try clear c6
   try clear c14
   try clear c14b0
   try clear c14b1
   try clear c14b2
   try clear c15
   try clear c15b0
   try clear c15b1
   try clear c16
   try clear c16b0
   try clear c16b1
   try clear hcz12_0 hcz12_1 hcz12_2 hcz12_3
   try clear hcz9_0 hcz9_1 hcz9_2 hcz9_3
   try clear hfz12_0 hfz12_1 hfz12_2 hfz12_3
   try clear hfz9_0 hfz9_1 hfz9_2 hfz9_3
   obtain ⟨kq, x45_5, rfl, HA, HJ5, HO_583003, BK582, HB⟩ := hcut
   cases kq with
   | zero => exact absurd HA.out (by simp [laws_FnExprTop.j0])
   | succ kj5 =>
    have H := HA.out
    clear HA
    simp only [laws_FnExprTop.j0] at H
    by_cases c17 : x45_5 = true
    ·subst c17
     rw [if_pos rfl] at H
     by_cases c18 : (t588 == t585) = true
     ·rw [if_pos c18] at H
      have c18b0 : (t588 == t585) = true := c18
      (try (have c18b1 : decide (t588 = t585) = true := by simpa using c18))
      (try (have c18b2 : (t588 == t585) = true := by simpa using c18))
      clear c18
      by_cases c19 : t586 = t583
      ·rw [if_pos c19] at H
       have c19b0 : (t586 == t583) = true := beq_iff_eq.mpr c19
       have c19b1 : (t586 != t583) = false := bne_eq_false_iff_eq.mpr c19
       clear c19
       obtain rfl := Option.some.inj H
       go_wp2
       go_ret
       exact ⟨by first | rfl | (simp [errW_none, errW_some] <;> rfl) | (simp [*, errW_none, errW_some] <;> rfl), hzs HB⟩
      ·rw [if_neg c19] at H
       have c19b0 : (t586 == t583) = false := beq_eq_false_iff_ne.mpr c19
       have c19b1 : (t586 != t583) = true := bne_iff_ne.mpr c19
       obtain rfl := Option.some.inj H
       go_wp2
       go_ret
       exact ⟨by first | rfl | (simp [errW_none, errW_some] <;> rfl) | (simp [*, errW_none, errW_some] <;> rfl), hzs HB⟩
     ·rw [if_neg c18] at H
      have c18b0 : (t588 == t585) = false := by simpa using c18
      (try (have c18b1 : decide (t588 = t585) = false := by simpa using c18))
      (try (have c18b2 : (t588 == t585) = false := by simpa using c18))
      (try (have c18b3 : ¬ (t588 = t585) := by simpa using c18))
      clear c18
      obtain rfl := Option.some.inj H
      go_wp2
      go_ret
      exact ⟨by first | rfl | (simp [errW_none, errW_some] <;> rfl) | (simp [*, errW_none, errW_some] <;> rfl), hzs HB⟩
    ·replace c17 := Bool.eq_false_iff.mpr c17
     subst c17
     rw [if_neg (show ¬ (false = true) by decide)] at H
     replace H := Option.bind_eq_some_iff.mp H
     obtain ⟨⟨t589, t590, t591⟩, A200, H⟩ := H
     try dsimp only at H
     have A20 := Aside0.mk A200
     clear A200
     by_cases c21 : t591 = true
     ·subst c21
      rw [if_pos rfl] at H
      replace H := Option.bind_eq_some_iff.mp H
      obtain ⟨t593, A220, H⟩ := H
      try dsimp only at H
      have A22 := Aside0.mk A220
      clear A220
      obtain rfl := Option.some.inj H
      obtain ⟨hcz23_0, hcz23_1, hcz23_2, hcz23_3, hfz23_0, hfz23_1, hfz23_2, hfz23_3⟩ := cz4 BK582
      go_wp2_with (first | ((with_reducible refine gate_callee (f := 18) rfl ?_); refine gL 61 Try.func18 #[.agg #[.int .i64 t576, .int .i64 t577, .int .i64 t578, .slice Ao10 t579.length co10]] ?_; (with_reducible refine (impl_ExprSpan.calls kj5 t576 t577 t578 _ _ t579 t589 t590 true _ ?side1 ?side2 A20.out).mono ?_); (case side1 => repeat (first | exact (Kd.N_reads' HO_583003.out).2.2 | (with_reducible refine Kd.C_alloc ?_ _) | (with_reducible refine Kd.C_drewN ?_ _) | (with_reducible refine Kd.C_drew ?_))); (case side2 => exact (Kd.N_reads' HO_583003.out).2.1); rintro e w24 ⟨rfl, hb⟩; refine ⟨_, rfl, ?_⟩; replace HO_583003 := Aside0.mk (Kd.N_below (by (with_reducible repeat (first | apply Kd.N_alloc | apply Kd.N_drewN | apply Kd.N_drew)); exact HO_583003.out) hb); replace BK582 := bb (bk BK582) hb; replace HB := hbb (hzs HB) hb; clear hb) | ((with_reducible refine gate_dst (N := 10) rfl ?_); refine bE 10 #[.int .i64 0, .int .i64 0] 31 ?_; intro gb592 hg w25 hbox hb; have BK592 := Aside0.mk (hbox); have GE592 := gw hg (hzs HB); have GW592 := GE592; have NB582_592 := nl hg (bk BK582); have NB592_582 := ng hg (bk BK582); replace HO_583003 := Aside0.mk (Kd.N_below (Kd.N_elderB (by (with_reducible repeat (first | apply Kd.N_alloc | apply Kd.N_drewN | apply Kd.N_drew)); exact HO_583003.out) gb592 (Nat.le_of_eq hg.symm)) hb); replace BK582 := bb (bk BK582) hb; replace HB := hbb (hzs HB) hb; clear hb hbox hg; have hnb26 := NB592_582.out; have hnc26 := NB582_592.out; obtain ⟨hcz27_0, hcz27_1, hfz27_0, hfz27_1⟩ := cz2 BK592) | (go_at_call 28; (with_reducible refine (impl_SpanHas.calls t589 t590 t586 t587 t593 _ A22.out).mono ?_); rintro e w28 ⟨rfl, hb⟩; replace HO_583003 := Aside0.mk (Kd.N_below (by (with_reducible repeat (first | apply Kd.N_alloc | apply Kd.N_drewN | apply Kd.N_drew)); exact (Kd.N_mono (Kd.N_far (p := ⟨gb592, 1, none⟩) (Kd.N_far (p := ⟨gb592, 0, none⟩) (Kd.N_mono HO_583003.out (fun k_ hk => (⟨hk, hk.2⟩ : _ ∧ k_ ≠ gb592))) (fun _ hk => hk.2) (.int .i64 t589)) (fun _ hk => hk.2) (.int .i64 t590)) (fun _ h_ => h_.1))) hb); replace BK582 := bb (bk1 BK582 NB582_592) hb; replace BK592 := bb (o := .cells #[.int .i64 t589, .int .i64 t590] 31 (0, 0)) (bkp BK592) hb; replace HB := hbb (hzs HB) hb; clear hb))
      go_ret
      exact ⟨by first | rfl | (simp [errW_none, errW_some] <;> rfl) | (simp [*, errW_none, errW_some] <;> rfl), hzs HB⟩
     ·replace c21 := Bool.eq_false_iff.mpr c21
      subst c21
      rw [if_neg (show ¬ (false = true) by decide)] at H
      obtain rfl := Option.some.inj H
      obtain ⟨hcz29_0, hcz29_1, hcz29_2, hcz29_3, hfz29_0, hfz29_1, hfz29_2, hfz29_3⟩ := cz4 BK582
      go_wp2_with (first | ((with_reducible refine gate_callee (f := 18) rfl ?_); refine gL 61 Try.func18 #[.agg #[.int .i64 t576, .int .i64 t577, .int .i64 t578, .slice Ao10 t579.length co10]] ?_; (with_reducible refine (impl_ExprSpan.calls kj5 t576 t577 t578 _ _ t579 t589 t590 false _ ?side1 ?side2 A20.out).mono ?_); (case side1 => repeat (first | exact (Kd.N_reads' HO_583003.out).2.2 | (with_reducible refine Kd.C_alloc ?_ _) | (with_reducible refine Kd.C_drewN ?_ _) | (with_reducible refine Kd.C_drew ?_))); (case side2 => exact (Kd.N_reads' HO_583003.out).2.1); rintro e w30 ⟨rfl, hb⟩; refine ⟨_, rfl, ?_⟩; replace HO_583003 := Aside0.mk (Kd.N_below (by (with_reducible repeat (first | apply Kd.N_alloc | apply Kd.N_drewN | apply Kd.N_drew)); exact HO_583003.out) hb); replace BK582 := bb (bk BK582) hb; replace HB := hbb (hzs HB) hb; clear hb) | ((with_reducible refine gate_dst (N := 10) rfl ?_); refine bE 10 #[.int .i64 0, .int .i64 0] 31 ?_; intro gb592 hg w31 hbox hb; have BK592 := Aside0.mk (hbox); have GE592 := gw hg (hzs HB); have GW592 := GE592; have NB582_592 := nl hg (bk BK582); have NB592_582 := ng hg (bk BK582); replace HO_583003 := Aside0.mk (Kd.N_below (Kd.N_elderB (by (with_reducible repeat (first | apply Kd.N_alloc | apply Kd.N_drewN | apply Kd.N_drew)); exact HO_583003.out) gb592 (Nat.le_of_eq hg.symm)) hb); replace BK582 := bb (bk BK582) hb; replace HB := hbb (hzs HB) hb; clear hb hbox hg; have hnb32 := NB592_582.out; have hnc32 := NB582_592.out; obtain ⟨hcz33_0, hcz33_1, hfz33_0, hfz33_1⟩ := cz2 BK592))
      go_ret
      exact ⟨by first | rfl | (simp [errW_none, errW_some] <;> rfl) | (simp [*, errW_none, errW_some] <;> rfl), hzs HB⟩


theorem drawExprRat_tells {l : List Int} (hl : Bytes l) {k : Nat} (hk : 1400 ≤ k) : ∃ f0 f1 f2 m, spec_DrawExprRat.f k l = some (f0, f1, f2, m) ∧ nodes ⟨f0, f1, f2, m⟩ ≤ 63 := by
 unfold spec_DrawExprRat.f
 obtain ⟨b, h1, h2, h3⟩ := open_tells hl
 rw [h1]; simp only [Option.bind_some]
 obtain ⟨v, r1, r2, r3⟩ := pick_tells h2 h3 (show (0 : Int) ≤ 0 by omega) (by omega) (show (8 : Int) < 1073741824 by omega) (k := k) (by omega)
 rw [r1]; simp only [Option.bind_some]
 obtain ⟨g0, g1, g2, m, p, q1, q2, q3, q4⟩ := bent_tells h2 h3 (decide (v > 0)) (show (0 : Int) ≤ 0 + 1 by omega) (by omega) (k := k) (by omega)
 rw [q1]; simp only [Option.bind_some]
 exact ⟨_, _, _, _, rfl, q2⟩
/-! ### what is reckoned exactly lies in the span -/
def Within (s : Int × Int) (a b : Int) : Prop := 0 < b ∧ s.1 * b ≤ a * 1000000000 ∧ a * 1000000000 ≤ s.2 * b
theorem least1_eq {a b : Int} (hb : 0 < b) (h : (least1 a b).2.2 = true) : 0 < (least1 a b).2.1 ∧ (least1 a b).1 * b = a * (least1 a b).2.1 := by
 obtain ⟨g, d1, d2, p⟩ := least_bd (a := a) hb
 unfold least1 at h ⊢
 by_cases c : isNum (a / (Int.gcd a b : Int)) (b / (Int.gcd a b : Int))
 ·rw [if_pos c]
  generalize (Int.gcd a b : Int) = q at *
  obtain ⟨x, rfl⟩ := d1
  obtain ⟨y, rfl⟩ := d2
  show 0 < q * y / q ∧ q * x / q * (q * y) = q * x * (q * y / q)
  rw [Int.mul_ediv_cancel_left _ (by omega), Int.mul_ediv_cancel_left _ (by omega)] at *
  exact ⟨p, by rw [Int.mul_left_comm, Int.mul_assoc]⟩
 ·rw [if_neg c] at h; cases h
theorem leastM_eq {a b : Int} (h : (leastM a b).2.2 = true) : b ≠ 0 ∧ 0 < (leastM a b).2.1 ∧ (leastM a b).1 * b = a * (leastM a b).2.1 := by
 unfold leastM at h ⊢
 by_cases c : b = 0
 ·rw [if_pos c] at h; cases h
 rw [if_neg c] at h ⊢
 refine ⟨c, ?_⟩
 by_cases d : b < 0
 ·rw [if_pos d] at h ⊢
  have e := least1_eq (a := -a) (b := -b) (by omega) h
  refine ⟨e.1, ?_⟩
  have := e.2
  rw [Int.mul_neg, Int.neg_mul] at this
  omega
 ·rw [if_neg d] at h ⊢
  exact least1_eq (by omega) h
/-- What lies between ends over one denominator lies so over another. -/
theorem within_of {s : Int × Int} {p q a b : Int} (hq : 0 < q) (hb : 0 < b) (h : a * q = p * b) (h1 : s.1 * q ≤ p * 1000000000) (h2 : p * 1000000000 ≤ s.2 * q) : Within s a b := by
 refine ⟨hb, ?_, ?_⟩
 ·refine Int.le_of_mul_le_mul_right (a := q) ?_ hq
  have e1 : s.1 * b * q = s.1 * q * b := Int.mul_right_comm ..
  have e2 : a * 1000000000 * q = p * 1000000000 * b := by rw [Int.mul_right_comm a, h, Int.mul_right_comm]
  rw [e1, e2]
  exact Int.mul_le_mul_of_nonneg_right h1 (by omega)
 ·refine Int.le_of_mul_le_mul_right (a := q) ?_ hq
  have e1 : s.2 * b * q = s.2 * q * b := Int.mul_right_comm ..
  have e2 : a * 1000000000 * q = p * 1000000000 * b := by rw [Int.mul_right_comm a, h, Int.mul_right_comm]
  rw [e1, e2]
  exact Int.mul_le_mul_of_nonneg_right h2 (by omega)
theorem within_of_neg {s : Int × Int} {p q a b : Int} (hq : q < 0) (hb : 0 < b) (h : a * q = p * b) (h1 : s.1 * -q ≤ -p * 1000000000) (h2 : -p * 1000000000 ≤ s.2 * -q) : Within s a b :=
 within_of (p := -p) (q := -q) (by omega) hb (by rw [Int.mul_neg, Int.neg_mul, h]) h1 h2
theorem mul_between {x l h y m n : Int} (h1 : l ≤ x) (h2 : x ≤ h) (h3 : m ≤ y) (h4 : y ≤ n) : min4 (l * m) (l * n) (h * m) (h * n) ≤ x * y ∧ x * y ≤ max4 (l * m) (l * n) (h * m) (h * n) := by
 have step (z : Int) : (l * z ≤ x * z ∧ x * z ≤ h * z) ∨ (h * z ≤ x * z ∧ x * z ≤ l * z) := by
  rcases Int.le_total 0 z with c | c
  ·exact .inl ⟨Int.mul_le_mul_of_nonneg_right h1 c, Int.mul_le_mul_of_nonneg_right h2 c⟩
  ·exact .inr ⟨Int.mul_le_mul_of_nonpos_right h2 c, Int.mul_le_mul_of_nonpos_right h1 c⟩
 have s1 := step m
 have s2 := step n
 have s3 : (x * m ≤ x * y ∧ x * y ≤ x * n) ∨ (x * n ≤ x * y ∧ x * y ≤ x * m) := by
  rcases Int.le_total 0 x with c | c
  ·exact .inl ⟨Int.mul_le_mul_of_nonneg_left h3 c, Int.mul_le_mul_of_nonneg_left h4 c⟩
  ·exact .inr ⟨Int.mul_le_mul_of_nonpos_left c h4, Int.mul_le_mul_of_nonpos_left c h3⟩
 unfold min4 max4
 omega
theorem min4_mul (p q r s : Int) {c : Int} (hc : 0 ≤ c) : min4 p q r s * c ≤ p * c ∧ min4 p q r s * c ≤ q * c ∧ min4 p q r s * c ≤ r * c ∧ min4 p q r s * c ≤ s * c := by
 refine ⟨Int.mul_le_mul_of_nonneg_right ?_ hc, Int.mul_le_mul_of_nonneg_right ?_ hc, Int.mul_le_mul_of_nonneg_right ?_ hc, Int.mul_le_mul_of_nonneg_right ?_ hc⟩ <;> unfold min4 <;> omega
theorem max4_mul (p q r s : Int) {c : Int} (hc : 0 ≤ c) : p * c ≤ max4 p q r s * c ∧ q * c ≤ max4 p q r s * c ∧ r * c ≤ max4 p q r s * c ∧ s * c ≤ max4 p q r s * c := by
 refine ⟨Int.mul_le_mul_of_nonneg_right ?_ hc, Int.mul_le_mul_of_nonneg_right ?_ hc, Int.mul_le_mul_of_nonneg_right ?_ hc, Int.mul_le_mul_of_nonneg_right ?_ hc⟩ <;> unfold max4 <;> omega
theorem mul4 (a b c d : Int) : a * b * (c * d) = a * c * (b * d) := by
 rw [Int.mul_assoc, Int.mul_assoc, Int.mul_left_comm b]
theorem mul_within {s t : Int × Int} {a1 b1 a2 b2 : Int} (h1 : Within s a1 b1) (h2 : Within t a2 b2) : (mulM s t).1 * (b1 * b2) ≤ a1 * a2 * 1000000000 ∧ a1 * a2 * 1000000000 ≤ (mulM s t).2 * (b1 * b2) := by
 obtain ⟨p1, l1, u1⟩ := h1
 obtain ⟨p2, l2, u2⟩ := h2
 have q : 0 < b1 * b2 := Int.mul_pos p1 p2
 obtain ⟨m1, m2⟩ := mul_between l1 u1 l2 u2
 have e : a1 * 1000000000 * (a2 * 1000000000) = a1 * a2 * 1000000000 * 1000000000 := by rw [mul4, ← Int.mul_assoc]
 rw [e] at m1 m2
 have e1 := mul4 s.1 b1 t.1 b2
 have e2 := mul4 s.1 b1 t.2 b2
 have e3 := mul4 s.2 b1 t.1 b2
 have e4 := mul4 s.2 b1 t.2 b2
 rw [e1, e2, e3, e4] at m1 m2
 unfold mulM
 obtain ⟨x1, x2, x3, x4⟩ := min4_mul (s.1 * t.1) (s.1 * t.2) (s.2 * t.1) (s.2 * t.2) (c := b1 * b2) (by omega)
 obtain ⟨y1, y2, y3, y4⟩ := max4_mul (s.1 * t.1) (s.1 * t.2) (s.2 * t.1) (s.2 * t.2) (c := b1 * b2) (by omega)
 generalize min4 (s.1 * t.1) (s.1 * t.2) (s.2 * t.1) (s.2 * t.2) = mi at *
 generalize max4 (s.1 * t.1) (s.1 * t.2) (s.2 * t.1) (s.2 * t.2) = ma at *
 have lo : mi * (b1 * b2) ≤ a1 * a2 * 1000000000 * 1000000000 := by refine Int.le_trans ?_ m1; unfold min4; omega
 have hi : a1 * a2 * 1000000000 * 1000000000 ≤ ma * (b1 * b2) := by refine Int.le_trans m2 ?_; unfold max4; omega
 have d := dn_le (a := mi) (b := 1000000000) (by omega)
 have u := upd_ge (a := ma) (b := 1000000000) (by omega)
 have d2 := Int.mul_le_mul_of_nonneg_right d (show 0 ≤ b1 * b2 by omega)
 have u2 := Int.mul_le_mul_of_nonneg_right u (show 0 ≤ b1 * b2 by omega)
 rw [Int.mul_right_comm] at d2
 rw [Int.mul_right_comm (upd ma 1000000000)] at u2
 dsimp only
 constructor
 ·refine Int.le_of_mul_le_mul_right (a := 1000000000) ?_ (by omega)
  omega
 ·refine Int.le_of_mul_le_mul_right (a := 1000000000) ?_ (by omega)
  omega
theorem div_within {s t : Int × Int} {a1 b1 a2 b2 : Int} (h1 : Within s a1 b1) (h2 : Within t a2 b2) (ht : 0 < t.1) (ht2 : t.1 ≤ t.2) :
  0 < a2 ∧ min (s.1 * 1000000000 / t.1) (s.1 * 1000000000 / t.2) * (a2 * b1) ≤ a1 * b2 * 1000000000 ∧ a1 * b2 * 1000000000 ≤ max (upd (s.2 * 1000000000) t.1) (upd (s.2 * 1000000000) t.2) * (a2 * b1) := by
 obtain ⟨p1, l1, u1⟩ := h1
 obtain ⟨p2, l2, u2⟩ := h2
 have tp : 0 < t.1 * b2 := Int.mul_pos ht p2
 have ap : 0 < a2 := by omega
 have d1 := dn_le (a := s.1 * 1000000000) (b := t.1) ht
 have d2 := dn_le (a := s.1 * 1000000000) (b := t.2) (by omega)
 have v1 := upd_ge (a := s.2 * 1000000000) (b := t.1) ht
 have v2 := upd_ge (a := s.2 * 1000000000) (b := t.2) (by omega)
 have lo : ∀ z : Int, z ≤ s.1 * 1000000000 / t.1 → z ≤ s.1 * 1000000000 / t.2 → z * a2 ≤ s.1 * b2 := by
  intro z z1 z2
  refine Int.le_of_mul_le_mul_right (a := 1000000000) ?_ (by omega)
  rw [Int.mul_assoc, Int.mul_right_comm s.1]
  rcases Int.le_total 0 z with c | c
  ·have x1 : z * (a2 * 1000000000) ≤ z * (t.2 * b2) := Int.mul_le_mul_of_nonneg_left u2 c
   have x2 : z * t.2 ≤ s.1 * 1000000000 := by
    have := Int.mul_le_mul_of_nonneg_right z2 (show 0 ≤ t.2 by omega)
    omega
   have x3 := Int.mul_le_mul_of_nonneg_right x2 (show 0 ≤ b2 by omega)
   rw [Int.mul_assoc] at x3
   omega
  ·have x1 : z * (a2 * 1000000000) ≤ z * (t.1 * b2) := Int.mul_le_mul_of_nonpos_left c l2
   have x2 : z * t.1 ≤ s.1 * 1000000000 := by
    have := Int.mul_le_mul_of_nonneg_right z1 (show 0 ≤ t.1 by omega)
    omega
   have x3 := Int.mul_le_mul_of_nonneg_right x2 (show 0 ≤ b2 by omega)
   rw [Int.mul_assoc] at x3
   omega
 have hi : ∀ z : Int, upd (s.2 * 1000000000) t.1 ≤ z → upd (s.2 * 1000000000) t.2 ≤ z → s.2 * b2 ≤ z * a2 := by
  intro z z1 z2
  refine Int.le_of_mul_le_mul_right (a := 1000000000) ?_ (by omega)
  rw [Int.mul_assoc z, Int.mul_right_comm s.2]
  rcases Int.le_total 0 z with c | c
  ·have x1 : z * (t.1 * b2) ≤ z * (a2 * 1000000000) := Int.mul_le_mul_of_nonneg_left l2 c
   have x2 : s.2 * 1000000000 ≤ z * t.1 := by
    have := Int.mul_le_mul_of_nonneg_right z1 (show 0 ≤ t.1 by omega)
    omega
   have x3 := Int.mul_le_mul_of_nonneg_right x2 (show 0 ≤ b2 by omega)
   rw [Int.mul_assoc z] at x3
   omega
  ·have x1 : z * (t.2 * b2) ≤ z * (a2 * 1000000000) := Int.mul_le_mul_of_nonpos_left c u2
   have x2 : s.2 * 1000000000 ≤ z * t.2 := by
    have := Int.mul_le_mul_of_nonneg_right z2 (show 0 ≤ t.2 by omega)
    omega
   have x3 := Int.mul_le_mul_of_nonneg_right x2 (show 0 ≤ b2 by omega)
   rw [Int.mul_assoc z] at x3
   omega
 refine ⟨ap, ?_, ?_⟩
 ·have x := lo (min (s.1 * 1000000000 / t.1) (s.1 * 1000000000 / t.2)) (by omega) (by omega)
  have y := Int.mul_le_mul_of_nonneg_right x (show 0 ≤ b1 by omega)
  have z := Int.mul_le_mul_of_nonneg_right l1 (show 0 ≤ b2 by omega)
  rw [Int.mul_right_comm s.1] at z
  rw [Int.mul_right_comm a1] at z
  rw [Int.mul_assoc] at y
  omega
 ·have x := hi (max (upd (s.2 * 1000000000) t.1) (upd (s.2 * 1000000000) t.2)) (by omega) (by omega)
  have y := Int.mul_le_mul_of_nonneg_right x (show 0 ≤ b1 by omega)
  have z := Int.mul_le_mul_of_nonneg_right u1 (show 0 ≤ b2 by omega)
  rw [Int.mul_right_comm s.2] at z
  rw [Int.mul_right_comm a1] at z
  rw [Int.mul_assoc (max _ _)] at y
  omega
theorem within_neg {s : Int × Int} {a b : Int} (h : Within s a b) : Within (negM s) (-a) b := by
 obtain ⟨p, l, u⟩ := h
 refine ⟨p, ?_, ?_⟩
 ·show -s.2 * b ≤ -a * 1000000000
  rw [Int.neg_mul]; omega
 ·show -a * 1000000000 ≤ -s.1 * b
  rw [Int.neg_mul s.1]; omega
theorem fit_in {lo hi : Int} (h : (fitR lo hi).2.2 = true) : (fitR lo hi).1 = lo ∧ (fitR lo hi).2.1 = hi := by
 unfold fitR at h ⊢
 split
 ·exact ⟨rfl, rfl⟩
 ·rename_i c; rw [if_neg c] at h; cases h
theorem op_within {f0 f1 f2 : Int} {s t : Int × Int} {a1 b1 a2 b2 : Int} (hs : f0 = 2 ∨ 5 ≤ f0 → Within s a1 b1) (ht : 5 ≤ f0 → Within t a2 b2) (ho : t.1 ≤ t.2) (hr : (ratOp f0 f1 f2 (a1, b1) (a2, b2)).2.2 = true) (hp : (opM f0 f1 f2 s t).2.2 = true) :
  Within (pairOf (opM f0 f1 f2 s t)) (ratOp f0 f1 f2 (a1, b1) (a2, b2)).1 (ratOp f0 f1 f2 (a1, b1) (a2, b2)).2.1 := by
 unfold ratOp at hr ⊢
 unfold opM at hp ⊢
 by_cases c1 : f0 = 1
 ·rw [if_pos c1] at hr hp ⊢
  rw [if_pos c1]
  obtain ⟨-, e1, e2⟩ := leastM_eq hr
  unfold ofR at hp ⊢
  by_cases n : isNum f1 f2
  ·rw [if_pos n] at hp ⊢
   obtain ⟨y1, y2⟩ := fit_in hp
   have np : 0 < f2 := by have := n.2.1; omega
   refine within_of np e1 e2 ?_ ?_
   ·show (fitR _ _).1 * f2 ≤ _
    rw [y1]; exact dn_le np
   ·show _ ≤ (fitR _ _).2.1 * f2
    rw [y2]; exact upd_ge np
  ·rw [if_neg n] at hp; cases hp
 rw [if_neg c1] at hr hp ⊢
 rw [if_neg c1]
 by_cases c2 : f0 = 2
 ·rw [if_pos c2, if_pos c2]
  exact within_neg (hs (.inl c2))
 rw [if_neg c2] at hr hp ⊢
 rw [if_neg c2]
 by_cases c5 : f0 = 5
 ·have w1 := hs (.inr (by omega))
  have w2 := ht (by omega)
  rw [if_neg (show ¬ f0 = 3 by omega), if_neg (show ¬ f0 = 4 by omega), if_pos c5] at hp ⊢
  rw [if_pos c5] at hr ⊢
  by_cases h : halfOk (a1 * b2) ∧ halfOk (a2 * b1)
  ·rw [if_pos h] at hr ⊢
   obtain ⟨-, e1, e2⟩ := leastM_eq hr
   obtain ⟨y1, y2⟩ := fit_in hp
   obtain ⟨p1, l1, u1⟩ := w1
   obtain ⟨p2, l2, u2⟩ := w2
   have z1 := Int.mul_le_mul_of_nonneg_right l1 (show 0 ≤ b2 by omega)
   have z2 := Int.mul_le_mul_of_nonneg_right u1 (show 0 ≤ b2 by omega)
   have z3 := Int.mul_le_mul_of_nonneg_right l2 (show 0 ≤ b1 by omega)
   have z4 := Int.mul_le_mul_of_nonneg_right u2 (show 0 ≤ b1 by omega)
   rw [Int.mul_assoc, Int.mul_right_comm a1] at z1
   rw [Int.mul_right_comm a1, Int.mul_assoc s.2] at z2
   rw [Int.mul_assoc, Int.mul_right_comm a2, Int.mul_comm b2 b1] at z3
   rw [Int.mul_right_comm a2, Int.mul_assoc t.2, Int.mul_comm b2 b1] at z4
   refine within_of (p := a1 * b2 + a2 * b1) (q := b1 * b2) (Int.mul_pos p1 p2) e1 e2 ?_ ?_
   ·show (fitR _ _).1 * _ ≤ _
    rw [y1, Int.add_mul]; omega
   ·show _ ≤ (fitR _ _).2.1 * _
    rw [y2, Int.add_mul s.2]; omega
  ·rw [if_neg h] at hr; cases hr
 rw [if_neg c5] at hr ⊢
 by_cases c6 : f0 = 6
 ·have w1 := hs (.inr (by omega))
  have w2 := ht (by omega)
  rw [if_neg (show ¬ f0 = 3 by omega), if_neg (show ¬ f0 = 4 by omega), if_neg c5, if_pos c6] at hp ⊢
  rw [if_pos c6] at hr ⊢
  by_cases h : halfOk (a1 * b2) ∧ halfOk (a2 * b1)
  ·rw [if_pos h] at hr ⊢
   obtain ⟨-, e1, e2⟩ := leastM_eq hr
   obtain ⟨y1, y2⟩ := fit_in hp
   obtain ⟨p1, l1, u1⟩ := w1
   obtain ⟨p2, l2, u2⟩ := w2
   have z1 := Int.mul_le_mul_of_nonneg_right l1 (show 0 ≤ b2 by omega)
   have z2 := Int.mul_le_mul_of_nonneg_right u1 (show 0 ≤ b2 by omega)
   have z3 := Int.mul_le_mul_of_nonneg_right l2 (show 0 ≤ b1 by omega)
   have z4 := Int.mul_le_mul_of_nonneg_right u2 (show 0 ≤ b1 by omega)
   rw [Int.mul_assoc, Int.mul_right_comm a1] at z1
   rw [Int.mul_right_comm a1, Int.mul_assoc s.2] at z2
   rw [Int.mul_assoc, Int.mul_right_comm a2, Int.mul_comm b2 b1] at z3
   rw [Int.mul_right_comm a2, Int.mul_assoc t.2, Int.mul_comm b2 b1] at z4
   refine within_of (p := a1 * b2 - a2 * b1) (q := b1 * b2) (Int.mul_pos p1 p2) e1 e2 ?_ ?_
   ·show (fitR _ _).1 * _ ≤ _
    rw [y1, Int.sub_mul]; omega
   ·show _ ≤ (fitR _ _).2.1 * _
    rw [y2, Int.sub_mul s.2]; omega
  ·rw [if_neg h] at hr; cases hr
 rw [if_neg c6] at hr ⊢
 by_cases c7 : f0 = 7
 ·have w1 := hs (.inr (by omega))
  have w2 := ht (by omega)
  rw [if_neg (show ¬ f0 = 3 by omega), if_neg (show ¬ f0 = 4 by omega), if_neg c5, if_neg c6, if_pos c7] at hp ⊢
  rw [if_pos c7] at hr ⊢
  obtain ⟨-, e1, e2⟩ := leastM_eq hr
  obtain ⟨y1, y2⟩ := fit_in hp
  obtain ⟨m1, m2⟩ := mul_within w1 w2
  refine within_of (Int.mul_pos w1.1 w2.1) e1 e2 ?_ ?_
  ·show (fitR _ _).1 * _ ≤ _
   rw [y1]; exact m1
  ·show _ ≤ (fitR _ _).2.1 * _
   rw [y2]; exact m2
 rw [if_neg c7] at hr ⊢
 by_cases c8 : f0 = 8
 ·have w1 := hs (.inr (by omega))
  have w2 := ht (by omega)
  rw [if_neg (show ¬ f0 = 3 by omega), if_neg (show ¬ f0 = 4 by omega), if_neg c5, if_neg c6, if_neg c7] at hp ⊢
  rw [if_pos c8] at hr ⊢
  obtain ⟨-, e1, e2⟩ := leastM_eq hr
  unfold divR at hp ⊢
  by_cases z : t.1 ≤ 0 ∧ 0 ≤ t.2
  ·rw [if_pos z] at hp; cases hp
  rw [if_neg z] at hp ⊢
  by_cases g : t.2 < 0
  ·rw [if_pos g] at hp ⊢
   obtain ⟨y1, y2⟩ := fit_in hp
   obtain ⟨q, m1, m2⟩ := div_within (within_neg w1) (within_neg w2) (show 0 < (negM t).1 by show 0 < -t.2; omega) (show -t.2 ≤ -t.1 by omega)
   have qq : 0 < -a2 * b1 := Int.mul_pos q w1.1
   rw [Int.neg_mul] at qq
   refine within_of_neg (p := a1 * b2) (q := a2 * b1) (by omega) e1 e2 ?_ ?_
   ·show (fitR _ _).1 * _ ≤ _
    rw [y1, ← Int.neg_mul, ← Int.neg_mul a1]; exact m1
   ·show _ ≤ (fitR _ _).2.1 * _
    rw [y2, ← Int.neg_mul a2, ← Int.neg_mul a1]; exact m2
  ·rw [if_neg g] at hp ⊢
   obtain ⟨y1, y2⟩ := fit_in hp
   obtain ⟨q, m1, m2⟩ := div_within w1 w2 (by omega) ho
   refine within_of (Int.mul_pos q w1.1) e1 e2 ?_ ?_
   ·show (fitR _ _).1 * _ ≤ _
    rw [y1]; exact m1
   ·show _ ≤ (fitR _ _).2.1 * _
    rw [y2]; exact m2
 ·rw [if_neg c8] at hr; cases hr
theorem rat_within (N : Nat) : ∀ e : S25, nodes e ≤ N → sizeM e ≤ 15 → (ratM e).2.2 = true → (spanM e).2.2 = true → Within ((spanM e).1, (spanM e).2.1) (ratM e).1 (ratM e).2.1 := by
 induction N with
 | zero => intro e h; have := nodes_pos e; omega
 | succ N ih =>
  intro e h hs hr hp
  obtain ⟨f0, f1, f2, l⟩ := e
  obtain ⟨hd, hz⟩ := ok_parts hs
  rw [hz] at hs
  rw [nodes] at h
  obtain ⟨hf, hn⟩ := kind_of hd.1
  obtain ⟨k0, k1, k2⟩ := kinds_n hd.1
  match l, hs, h, hn, k0, k1, k2, hr, hp with
  | [], hs, h, hn, k0, k1, k2, hr, hp =>
   have f := k0 rfl
   rw [rat_0] at hr ⊢
   rw [span_0] at hp ⊢
   exact op_within (s := (0, 0)) (t := (0, 0)) (fun c => by omega) (fun c => by omega) (by decide) hr hp
  | [x], hs, h, hn, k0, k1, k2, hr, hp =>
   have f := k1 rfl
   rw [nodesL, nodesL] at h
   rw [sizeL, sizeL] at hs
   have sx := sizeM_bd x
   rw [rat_1] at hr ⊢
   rw [span_1] at hp ⊢
   by_cases c : (ratM x).2.2 = true
   ·rw [if_pos c] at hr ⊢
    by_cases d : (spanM x).2.2 = true
    ·rw [if_pos d] at hp ⊢
     exact op_within (s := ((spanM x).1, (spanM x).2.1)) (t := (0, 0)) (fun _ => ih x (by omega) (by omega) c d) (fun g => by omega) (by decide) hr hp
    ·rw [if_neg d] at hp; cases hp
   ·rw [if_neg c] at hr; cases hr
  | [x, y], hs, h, hn, k0, k1, k2, hr, hp =>
   have f := k2 rfl
   rw [nodesL, nodesL, nodesL] at h
   rw [sizeL, sizeL, sizeL] at hs
   have sx := sizeM_bd x
   have sy := sizeM_bd y
   have px := nodes_pos x
   have py := nodes_pos y
   rw [rat_2] at hr ⊢
   rw [span_2] at hp ⊢
   by_cases c : (ratM x).2.2 = true
   ·by_cases c2 : (ratM y).2.2 = true
    ·rw [if_pos c, if_pos c2] at hr ⊢
     by_cases d : (spanM x).2.2 = true
     ·by_cases d2 : (spanM y).2.2 = true
      ·rw [if_pos d, if_pos d2] at hp ⊢
       have oy := (spanM_ok y).pair d2
       exact op_within (s := ((spanM x).1, (spanM x).2.1)) (t := ((spanM y).1, (spanM y).2.1)) (fun _ => ih x (by omega) (by omega) c d) (fun _ => ih y (by omega) (by omega) c2 d2) oy.2.1 hr hp
      ·rw [if_pos d, if_neg d2] at hp; cases hp
     ·rw [if_neg d] at hp; cases hp
    ·rw [if_pos c, if_neg c2] at hr; cases hr
   ·rw [if_neg c] at hr; cases hr
  | _ :: _ :: _ :: _, _, _, hn, _, _, _, _, _ => simp at hn <;> omega
theorem ratR_within {e : S25} (hr : (ratR e).2.2 = true) (hp : (exprR e).2.2 = true) : Within ((exprR e).1, (exprR e).2.1) (ratR e).1 (ratR e).2.1 := by
 unfold ratR at hr ⊢
 unfold exprR at hp ⊢
 by_cases c : sizeM e ≤ 15
 ·rw [if_pos c] at hr hp ⊢
  rw [if_pos c]
  exact rat_within (nodes e) e (Nat.le_refl _) c hr hp
 ·rw [if_neg c] at hr; cases hr
theorem SpanHas_is {s : Int × Int} {a b : Int} (hs : OkM s) (hn : isNum a b) (h : Within s a b) : impl_SpanHas.f s.1 s.2 a b = some true := by
 obtain ⟨h0, h1, h2⟩ := hs
 obtain ⟨p, l, u⟩ := h
 have n := hn
 obtain ⟨⟨n1, n2⟩, n3, n4⟩ := n
 have m1 := mul_bd (a := s.1) (b := b) (A := 1073000000) (B := 1000000000) (by omega) (by omega) (by omega) (by omega)
 have m2 := mul_bd (a := s.2) (b := b) (A := 1073000000) (B := 1000000000) (by omega) (by omega) (by omega) (by omega)
 unfold impl_SpanHas.f
 rw [(SpanOk_is s.1 s.2).1, decide_eq_true (show -1073000000 ≤ s.1 ∧ s.1 ≤ s.2 ∧ s.2 ≤ 1073000000 from ⟨h0, h1, h2⟩), (isNum_is a b).1, decide_eq_true hn, in_is, w64 (x := a * 1000000000) (by omega) (by omega), w64 (x := s.1 * b) (by omega) (by omega), w64 (x := s.2 * b) (by omega) (by omega), decide_eq_true (show s.1 * b ≤ a * 1000000000 ∧ a * 1000000000 ≤ s.2 * b from ⟨l, u⟩)]
 rfl
theorem FnExprTop_pure {l0 : List Int} (hl : Bytes l0) {k : Nat} (hk : 3000 ≤ k) : laws_FnExprTop.f k l0 = some true := by
 unfold laws_FnExprTop.f
 by_cases h : (l0.length : Int) > 1048576
 ·rw [if_pos h]
 rw [if_neg h]
 obtain ⟨f0, f1, f2, m, q, hn⟩ := drawExprRat_tells hl (k := k) (by omega)
 rw [q]; simp only [Option.bind_some]
 have e1 := ExprRat_is (e := ⟨f0, f1, f2, m⟩) (by omega) (k := k) (by omega)
 dsimp only at e1
 rw [e1.1, e1.2]
 simp only [Option.bind_some, bne_self_eq_false, Bool.false_eq_true, if_false, if_true]
 obtain ⟨k, rfl⟩ : ∃ q, k = q + 1 := ⟨k - 1, by omega⟩
 rw [laws_FnExprTop.j0]
 by_cases c : (ratR ⟨f0, f1, f2, m⟩).2.2 = true
 ·have n := (ratR_ok ⟨f0, f1, f2, m⟩).num c
  have e2 := ExprSpan_is (e := ⟨f0, f1, f2, m⟩) (by omega) (k := k) (by omega)
  dsimp only at e2
  rw [c, Bool.not_true, if_neg (show ¬ (false = true) by decide), e2.1]
  simp only [Option.bind_some]
  by_cases d : (exprR ⟨f0, f1, f2, m⟩).2.2 = true
  ·have o := (exprR_ok ⟨f0, f1, f2, m⟩).pair d
   have s := SpanHas_is o n.1 (ratR_within c d)
   dsimp only at s
   rw [if_pos d, s]
   rfl
  ·rw [if_neg d]
 ·have c2 : (ratR ⟨f0, f1, f2, m⟩).2.2 = false := by simpa using c
  simp [c2]
theorem FnExprTop_true (A0 : Option Addr) (c0 : Nat) (l0 : List Int) (w : World) (hr0 : Kd.C (Kd.int .u8) w A0 l0.length l0) (hc0 : l0.length ≤ c0) (hw0 : ∀ x ∈ l0, (Lit.int .u8 x).wf = true) :
  Calls Try.prog 6 #[.slice A0 l0.length c0] w fun e w' => e = .returned (.bool true) ∧ Below w.heap.size w w' :=
 laws_FnExprTop.calls 3000 A0 c0 l0 true w hr0 hc0 (FnExprTop_pure (bytes_of hw0) (by omega))

end Go.Proofs.Ytlodpfddimeffaa.M
