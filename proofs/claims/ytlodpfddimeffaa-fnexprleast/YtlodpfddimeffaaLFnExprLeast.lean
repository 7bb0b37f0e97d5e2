import Derived.Test.YtlodpfddimeffaaP8
import Derived.Test.YtlodpfddimeffaaP9
import Derived.Test.YtlodpfddimeffaaDd
namespace Go.Proofs.Ytlodpfddimeffaa.M
open Go.RowKit Go.Proofs.YtlodpfddimeffaaW.PrintWords Go.Proofs.YtlodpfddimeffaaW.PrintLast Go.Proofs.YtlodpfddimeffaaW.PrintMore
attribute [local go_sem] max2_int min2_int max_two min_two max_three min_three max_four min_four
attribute [local go_sem high] eqA31
attribute [local go_sem] fld31_0 fld31_1 fld25_0 fld25_1 fld25_2 fld25_3
set_option linter.unusedVariables false
set_option linter.unusedSimpArgs false
/-! ### laws_FnExprLeast: function 9 -/
mutual
def laws_FnExprLeast.j0 : Nat → Int → Int → Bool → Int → Int → Bool → Bool → Option (Bool)
 | 0, _, _, _, _, _, _, _ => none
 | k + 1, x4, x5, x6, x7, x8, x9, x44 => if x44 = true then (if (x9 == x6) = true then (if x7 = x4 then (some (x8 == x5)) else (some false)) else (some false)) else (laws_FnExprLeast.l0 k x7 x8 2)
def laws_FnExprLeast.l0 : Nat → Int → Int → Int → Option (Bool)
 | 0, _, _, _ => none
 | k + 1, x7, x8, x10 => if x10 < 50 then (if x10 = 0 then (none) else (if (Int.tmod x7 x10) = 0 then (if (Int.tmod x8 x10) = 0 then (some false) else (laws_FnExprLeast.l0 k x7 x8 (wrap64 (x10 + 1)))) else (laws_FnExprLeast.l0 k x7 x8 (wrap64 (x10 + 1))))) else (if x8 ≥ 1 then (if x7 = 0 then (some (x8 == 1)) else (some true)) else (some false))
end
def laws_FnExprLeast.f (k : Nat) (l0 : List Int) : Option (Bool) := if (l0.length : Int) > 1048576 then (some true) else ((spec_DrawExprRat.f k l0).bind fun bt456 => ((spec_ExprRat.f k bt456.1 bt456.2.1 bt456.2.2.1 bt456.2.2.2).bind fun bt463 => ((impl_ExprRat.f k bt456.1 bt456.2.1 bt456.2.2.1 bt456.2.2.2).bind fun bt466 => (if (bt466.2.2 != bt463.2.2) = true then (laws_FnExprLeast.j0 k bt463.1 bt463.2.1 bt463.2.2 bt466.1 bt466.2.1 bt466.2.2 true) else (if bt466.1 = bt463.1 then (if bt466.2.1 = bt463.2.1 then (laws_FnExprLeast.j0 k bt463.1 bt463.2.1 bt463.2.2 bt466.1 bt466.2.1 bt466.2.2 (!bt466.2.2)) else (laws_FnExprLeast.j0 k bt463.1 bt463.2.1 bt463.2.2 bt466.1 bt466.2.1 bt466.2.2 true)) else (laws_FnExprLeast.j0 k bt463.1 bt463.2.1 bt463.2.2 bt466.1 bt466.2.1 bt466.2.2 true))))))
set_option maxHeartbeats 8000000 in
set_option maxRecDepth 100000 in
theorem laws_FnExprLeast.calls (k : Nat) (A0 : Option Addr) (c0 : Nat) (l0 : List Int) (r : Bool) (w : World) (hr0 : Kd.C (Kd.int .u8) w A0 l0.length l0) (hc0 : l0.length ≤ c0) (h : laws_FnExprLeast.f k l0 = some r) :
  Calls Try.prog 9 #[.slice A0 l0.length c0] w fun e w' => e = .returned (.bool r) ∧ Below w.heap.size w w' := by
 have hu25 := Try.underlying25
 have HR0 := Aside0.mk hr0
 have HC0 := Aside0.mk hc0
 clear hr0 hc0
 have HB := Aside0.mk (Below.refl w.heap.size w)
 have H := h
 clear h
 unfold laws_FnExprLeast.f at H
 by_cases c2 : (l0.length : Int) > 1048576
 ·rw [if_pos c2] at H
  have c2b0 : decide (1048576 < (l0.length : Int)) = true := decide_eq_true c2
  have c2b1 : decide (1048576 < l0.length) = true := decide_eq_true (by omega)
  clear c2
  obtain rfl := Option.some.inj H
  go_enter Try.func9, Try.ntmps9
  go_wp2
  go_ret
  exact ⟨by first | rfl | (simp [errW_none, errW_some] <;> rfl) | (simp [*, errW_none, errW_some] <;> rfl), hz0 HB⟩
 ·rw [if_neg c2] at H
  have c2b0 : decide (1048576 < (l0.length : Int)) = false := decide_eq_false c2
  have c2b1 : decide (1048576 < l0.length) = false := decide_eq_false (by omega)
  clear c2
  replace H := Option.bind_eq_some_iff.mp H
  obtain ⟨⟨t456, t457, t458, t459⟩, A30, H⟩ := H
  try dsimp only at H
  have A3 := Aside0.mk A30
  clear A30
  replace H := Option.bind_eq_some_iff.mp H
  obtain ⟨⟨t463, t464, t465⟩, A40, H⟩ := H
  try dsimp only at H
  have A4 := Aside0.mk A40
  clear A40
  replace H := Option.bind_eq_some_iff.mp H
  obtain ⟨⟨t466, t467, t468⟩, A50, H⟩ := H
  try dsimp only at H
  have A5 := Aside0.mk A50
  clear A50
  have HC6 := Aside0.mk H
  clear H
  go_enter Try.func9, Try.ntmps9
  go_upto_region 6 with (first | ((with_reducible refine gate_callee (f := 27) rfl ?_); refine gL 15 Try.func27 #[.slice A0 l0.length c0] ?_; (with_reducible refine (spec_DrawExprRat.calls k _ _ l0 t456 t457 t458 t459 _ ?side1 ?side2 A3.out).mono ?_); (case side1 => repeat (first | exact HR0.out | (with_reducible refine Kd.C_alloc ?_ _) | (with_reducible refine Kd.C_drewN ?_ _) | (with_reducible refine Kd.C_drew ?_))); (case side2 => exact HC0.out); rintro e w7 ⟨v460, rfl, ho0, hb⟩; refine ⟨_, rfl, ?_⟩; have HO461 := Aside0.mk (Kd.N_lower (Kd.N_mono (ok' := fun k_ => True) ho0 (fun k_ hk_ => trivial)) (below_size (hz0 HB))); replace HB := hbb (hz0 HB) hb; (try clear hb); (try clear hb2); (try clear hk); (try clear hi); (try clear ho0)) | ((with_reducible refine gate_dst (N := 3) rfl ?_); refine bE 3 #[.int .i64 0, .int .i64 0, .int .i64 0, .slice none 0 0] 25 ?_; intro gb462 hg w8 hbox hb; have BK462 := Aside0.mk (hbox); have GE462 := gw hg (hz0 HB); replace HO461 := Aside0.mk (Kd.N_below (Kd.N_elderB (by (with_reducible repeat (first | apply Kd.N_alloc | apply Kd.N_drewN | apply Kd.N_drew)); exact HO461.out) gb462 (Nat.le_of_eq hg.symm)) hb); replace HB := hbb (hz0 HB) hb; clear hb hbox hg; obtain ⟨hcz9_0, hcz9_1, hcz9_2, hcz9_3, hfz9_0, hfz9_1, hfz9_2, hfz9_3⟩ := cz4 BK462; obtain ⟨Ao10, co10, eo10⟩ := Kd.N_slice HO461.out; subst eo10) | ((with_reducible refine gate_callee (f := 25) rfl ?_); refine gL 18 Try.func25 #[.agg #[.int .i64 t456, .int .i64 t457, .int .i64 t458, .slice Ao10 t459.length co10]] ?_; (with_reducible refine (spec_ExprRat.calls k t456 t457 t458 _ _ t459 t463 t464 t465 _ ?side1 ?side2 A4.out).mono ?_); (case side1 => refine (Kd.N_reads' (e := 25) (base := w.heap.size) (ok := fun k_ => (True ∧ k_ ≠ gb462)) (n := t459.length) (c := co10) ?_).2.2; exact (by (with_reducible repeat (first | apply Kd.N_alloc | apply Kd.N_drewN | apply Kd.N_drew)); exact (Kd.N_mono (Kd.N_far (p := ⟨gb462, 3, none⟩) (Kd.N_far (p := ⟨gb462, 2, none⟩) (Kd.N_far (p := ⟨gb462, 1, none⟩) (Kd.N_far (p := ⟨gb462, 0, none⟩) (Kd.N_mono HO461.out (fun k_ hk => (⟨hk, hk.2⟩ : _ ∧ k_ ≠ gb462))) (fun _ hk => hk.2) (.int .i64 t456)) (fun _ hk => hk.2) (.int .i64 t457)) (fun _ hk => hk.2) (.int .i64 t458)) (fun _ hk => hk.2) (.slice Ao10 t459.length co10)) (fun _ h_ => h_.1)))); (case side2 => exact (Kd.N_reads' HO461.out).2.1); rintro e w11 ⟨rfl, hb⟩; refine ⟨_, rfl, ?_⟩; replace HO461 := Aside0.mk (Kd.N_below (by (with_reducible repeat (first | apply Kd.N_alloc | apply Kd.N_drewN | apply Kd.N_drew)); exact (Kd.N_mono (Kd.N_far (p := ⟨gb462, 3, none⟩) (Kd.N_far (p := ⟨gb462, 2, none⟩) (Kd.N_far (p := ⟨gb462, 1, none⟩) (Kd.N_far (p := ⟨gb462, 0, none⟩) (Kd.N_mono HO461.out (fun k_ hk => (⟨hk, hk.2⟩ : _ ∧ k_ ≠ gb462))) (fun _ hk => hk.2) (.int .i64 t456)) (fun _ hk => hk.2) (.int .i64 t457)) (fun _ hk => hk.2) (.int .i64 t458)) (fun _ hk => hk.2) (.slice Ao10 t459.length co10)) (fun _ h_ => h_.1))) hb); replace BK462 := Aside0.mk (blk_below (g := gb462) (o := .cells #[.int .i64 t456, .int .i64 t457, .int .i64 t458, .slice Ao10 t459.length co10] 25 (0, 0)) (by (with_reducible repeat (first | refine blk_drewN ?_ _ | refine blk_drew ?_ | refine blk_alloc ?_ _)); refine blk_put (cs := #[.int .i64 t456, .int .i64 t457, .int .i64 t458, .slice none 0 0]) ?_ 3 _ rfl; (with_reducible repeat (first | refine blk_drewN ?_ _ | refine blk_drew ?_ | refine blk_alloc ?_ _)); refine blk_put (cs := #[.int .i64 t456, .int .i64 t457, .int .i64 0, .slice none 0 0]) ?_ 2 _ rfl; (with_reducible repeat (first | refine blk_drewN ?_ _ | refine blk_drew ?_ | refine blk_alloc ?_ _)); refine blk_put (cs := #[.int .i64 t456, .int .i64 0, .int .i64 0, .slice none 0 0]) ?_ 1 _ rfl; (with_reducible repeat (first | refine blk_drewN ?_ _ | refine blk_drew ?_ | refine blk_alloc ?_ _)); refine blk_put (cs := #[.int .i64 0, .int .i64 0, .int .i64 0, .slice none 0 0]) ?_ 0 _ rfl; (with_reducible repeat (first | refine blk_drewN ?_ _ | refine blk_drew ?_ | refine blk_alloc ?_ _)); exact BK462.out) hb); replace HB := hbb (hzs HB) hb; clear hb; obtain ⟨hcz12_0, hcz12_1, hcz12_2, hcz12_3, hfz12_0, hfz12_1, hfz12_2, hfz12_3⟩ := cz4 BK462) | ((with_reducible refine gate_callee (f := 26) rfl ?_); refine gL 24 Try.func26 #[.agg #[.int .i64 t456, .int .i64 t457, .int .i64 t458, .slice Ao10 t459.length co10]] ?_; (with_reducible refine (impl_ExprRat.calls k t456 t457 t458 _ _ t459 t466 t467 t468 _ ?side1 ?side2 A5.out).mono ?_); (case side1 => repeat (first | exact (Kd.N_reads' HO461.out).2.2 | (with_reducible refine Kd.C_alloc ?_ _) | (with_reducible refine Kd.C_drewN ?_ _) | (with_reducible refine Kd.C_drew ?_))); (case side2 => exact (Kd.N_reads' HO461.out).2.1); rintro e w13 ⟨rfl, hb⟩; refine ⟨_, rfl, ?_⟩; replace HO461 := Aside0.mk (Kd.N_below (by (with_reducible repeat (first | apply Kd.N_alloc | apply Kd.N_drewN | apply Kd.N_drew)); exact HO461.out) hb); replace BK462 := bb (bk BK462) hb; replace HB := hbb (hzs HB) hb; clear hb))
  (try simp only [Act.put, List.setIfInBounds_toArray, List.set_cons_zero, List.set_cons_succ])
  go_cut [44] (fun v44 wc => ∃ (kq : Nat) (x44_5 : Bool), v44 = .bool x44_5 ∧ Aside0 (laws_FnExprLeast.j0 kq t463 t464 t465 t466 t467 t468 x44_5 = some r) ∧ Aside0 (kq ≤ k) ∧ Aside0 (Kd.N k25 25 wc w.heap.size (fun k_ => k_ ≠ gb462) (.slice Ao10 t459.length co10) t459) ∧ Aside0 (wc.heap[gb462]? = some (.cells #[.int .i64 t456, .int .i64 t457, .int .i64 t458, (.slice Ao10 t459.length co10)] 25 (0, 0))) ∧ Aside0 (Below w.heap.size w wc))
  case first =>
   have H := HC6.out
   clear HC6
   by_cases c14 : (t468 != t465) = true
   ·rw [if_pos c14] at H
    have c14b0 : (t468 != t465) = true := c14
    (try (have c14b1 : decide (t468 = t465) = false := by simpa using c14))
    (try (have c14b2 : (t468 == t465) = false := by simpa using c14))
    (try (have c14b3 : ¬ (t468 = t465) := by simpa using c14))
    clear c14
    (first | rw [c14b0] | (simp only [i64_w, i32_w]; rw [c14b0]) | skip)
    have H' := Aside0.mk H
    clear H
    go_wp2
    go_meet
    case rel => exact ⟨_, (true), (by first | rfl | (simp; done) | (simp [*]; done)), H', ⟨by first | omega | exact Nat.le_refl _⟩, ⟨by (with_reducible repeat (first | apply Kd.N_alloc | apply Kd.N_drewN | apply Kd.N_drew)); exact Kd.N_mono HO461.out (fun _ hk => hk.2)⟩, ⟨bk BK462⟩, ⟨hzs HB⟩⟩
   ·rw [if_neg c14] at H
    have c14b0 : (t468 != t465) = false := by simpa using c14
    (try (have c14b1 : decide (t468 = t465) = true := by simpa using c14))
    (try (have c14b2 : (t468 == t465) = true := by simpa using c14))
    clear c14
    (first | rw [c14b0] | (simp only [i64_w, i32_w]; rw [c14b0]) | skip)
    by_cases c15 : t466 = t463
    ·rw [if_pos c15] at H
     have c15b0 : (t466 == t463) = true := beq_iff_eq.mpr c15
     have c15b1 : (t466 != t463) = false := bne_eq_false_iff_eq.mpr c15
     clear c15
     by_cases c16 : t467 = t464
     ·rw [if_pos c16] at H
      have c16b0 : (t467 == t464) = true := beq_iff_eq.mpr c16
      have c16b1 : (t467 != t464) = false := bne_eq_false_iff_eq.mpr c16
      clear c16
      have H' := Aside0.mk H
      clear H
      go_wp2
      go_meet
      case rel => exact ⟨_, (!t468), (by first | rfl | (simp; done) | (simp [*]; done)), H', ⟨by first | omega | exact Nat.le_refl _⟩, ⟨by (with_reducible repeat (first | apply Kd.N_alloc | apply Kd.N_drewN | apply Kd.N_drew)); exact Kd.N_mono HO461.out (fun _ hk => hk.2)⟩, ⟨bk BK462⟩, ⟨hzs HB⟩⟩
     ·rw [if_neg c16] at H
      have c16b0 : (t467 == t464) = false := beq_eq_false_iff_ne.mpr c16
      have c16b1 : (t467 != t464) = true := bne_iff_ne.mpr c16
      have H' := Aside0.mk H
      clear H
      go_wp2
      go_meet
      case rel => exact ⟨_, (true), (by first | rfl | (simp; done) | (simp [*]; done)), H', ⟨by first | omega | exact Nat.le_refl _⟩, ⟨by (with_reducible repeat (first | apply Kd.N_alloc | apply Kd.N_drewN | apply Kd.N_drew)); exact Kd.N_mono HO461.out (fun _ hk => hk.2)⟩, ⟨bk BK462⟩, ⟨hzs HB⟩⟩
    ·rw [if_neg c15] at H
     have c15b0 : (t466 == t463) = false := beq_eq_false_iff_ne.mpr c15
     have c15b1 : (t466 != t463) = true := bne_iff_ne.mpr c15
     have H' := Aside0.mk H
     clear H
     go_wp2
     go_meet
     case rel => exact ⟨_, (true), (by first | rfl | (simp; done) | (simp [*]; done)), H', ⟨by first | omega | exact Nat.le_refl _⟩, ⟨by (with_reducible repeat (first | apply Kd.N_alloc | apply Kd.N_drewN | apply Kd.N_drew)); exact Kd.N_mono HO461.out (fun _ hk => hk.2)⟩, ⟨bk BK462⟩, ⟨hzs HB⟩⟩
  case rest =>
   clear HC6
   try clear c1
   try clear c2
   try clear c2b0
   try clear c2b1
   try clear p2
   try clear c9
   try clear c14
   try clear c14b0
   try clear c14b1
   try clear c14b2
   try clear c15
   try clear c15b0
   try clear c15b1
   try clear c16
   try clear c16b0
   try clear c16b1
   try clear hcz12_0 hcz12_1 hcz12_2 hcz12_3
   try clear hcz9_0 hcz9_1 hcz9_2 hcz9_3
   try clear hfz12_0 hfz12_1 hfz12_2 hfz12_3
   try clear hfz9_0 hfz9_1 hfz9_2 hfz9_3
   obtain ⟨kq, x44_5, rfl, HA, HJ5, HO_463003, BK462, HB⟩ := hcut
   cases kq with
   | zero => exact absurd HA.out (by simp [laws_FnExprLeast.j0])
   | succ kj5 =>
    have H := HA.out
    clear HA
    simp only [laws_FnExprLeast.j0] at H
    by_cases c17 : x44_5 = true
    ·subst c17
     rw [if_pos rfl] at H
     by_cases c18 : (t468 == t465) = true
     ·rw [if_pos c18] at H
      have c18b0 : (t468 == t465) = true := c18
      (try (have c18b1 : decide (t468 = t465) = true := by simpa using c18))
      (try (have c18b2 : (t468 == t465) = true := by simpa using c18))
      clear c18
      by_cases c19 : t466 = t463
      ·rw [if_pos c19] at H
       have c19b0 : (t466 == t463) = true := beq_iff_eq.mpr c19
       have c19b1 : (t466 != t463) = false := bne_eq_false_iff_eq.mpr c19
       clear c19
       obtain rfl := Option.some.inj H
       go_wp2
       go_ret
       exact ⟨by first | rfl | (simp [errW_none, errW_some] <;> rfl) | (simp [*, errW_none, errW_some] <;> rfl), hzs HB⟩
      ·rw [if_neg c19] at H
       have c19b0 : (t466 == t463) = false := beq_eq_false_iff_ne.mpr c19
       have c19b1 : (t466 != t463) = true := bne_iff_ne.mpr c19
       obtain rfl := Option.some.inj H
       go_wp2
       go_ret
       exact ⟨by first | rfl | (simp [errW_none, errW_some] <;> rfl) | (simp [*, errW_none, errW_some] <;> rfl), hzs HB⟩
     ·rw [if_neg c18] at H
      have c18b0 : (t468 == t465) = false := by simpa using c18
      (try (have c18b1 : decide (t468 = t465) = false := by simpa using c18))
      (try (have c18b2 : (t468 == t465) = false := by simpa using c18))
      (try (have c18b3 : ¬ (t468 = t465) := by simpa using c18))
      clear c18
      obtain rfl := Option.some.inj H
      go_wp2
      go_ret
      exact ⟨by first | rfl | (simp [errW_none, errW_some] <;> rfl) | (simp [*, errW_none, errW_some] <;> rfl), hzs HB⟩
    ·replace c17 := Bool.eq_false_iff.mpr c17
     subst c17
     rw [if_neg (show ¬ (false = true) by decide)] at H
     have H' := Aside0.mk H
     clear H
     go_wp2
     go_loopg [10] kj5 (fun kq v10 w' => ∃ (x10_2 : Int), v10 = .int .i64 x10_2 ∧ Aside0 (laws_FnExprLeast.l0 kq t466 t467 x10_2 = some r) ∧ Aside0 (kq ≤ kj5) ∧ Aside0 (Kd.N k25 25 w' w.heap.size (fun k_ => k_ ≠ gb462) (.slice Ao10 t459.length co10) t459) ∧ Aside0 (w'.heap[gb462]? = some (.cells #[.int .i64 t456, .int .i64 t457, .int .i64 t458, (.slice Ao10 t459.length co10)] 25 (0, 0))) ∧ Aside0 (Below w.heap.size w w'))
     case atStart => exact ⟨(2), (by first | rfl | (simp; done) | (simp [*]; done)), H', ⟨Nat.le_refl _⟩, ⟨by (with_reducible repeat (first | apply Kd.N_alloc | apply Kd.N_drewN | apply Kd.N_drew)); exact HO_463003.out⟩, ⟨bk BK462⟩, ⟨hzs HB⟩⟩
     case round =>
      clear H'
      try clear c1
      try clear c2
      try clear c2b0
      try clear c2b1
      try clear p2
      try clear c9
      try clear c14
      try clear c14b0
      try clear c14b1
      try clear c14b2
      try clear c15
      try clear c15b0
      try clear c15b1
      try clear c16
      try clear c16b0
      try clear c16b1
      try clear c17
      try clear c18
      try clear c18b0
      try clear c18b1
      try clear c18b2
      try clear c19
      try clear c19b0
      try clear c19b1
      try clear hcz12_0 hcz12_1 hcz12_2 hcz12_3
      try clear hcz9_0 hcz9_1 hcz9_2 hcz9_3
      try clear hfz12_0 hfz12_1 hfz12_2 hfz12_3
      try clear hfz9_0 hfz9_1 hfz9_2 hfz9_3
      try clear p2
      obtain ⟨x10_2, rfl, HA, HK2, HO_463003, BK462, HB⟩ := hrel
      cases gk with
      | zero => exact absurd HA.out (by simp [laws_FnExprLeast.l0])
      | succ k2 =>
       have H := HA.out
       clear HA
       simp only [laws_FnExprLeast.l0] at H
       by_cases c20 : x10_2 < 50
       ·rw [if_pos c20] at H
        have c20b0 : decide (x10_2 < 50) = true := decide_eq_true c20
        clear c20
        by_cases c21 : x10_2 = 0
        ·rw [if_pos c21] at H
         exact absurd H (by simp)
        ·rw [if_neg c21] at H
         have c21b0 : (x10_2 == 0) = false := beq_eq_false_iff_ne.mpr c21
         have c21b1 : (x10_2 != 0) = true := bne_iff_ne.mpr c21
         by_cases c22 : (Int.tmod t466 x10_2) = 0
         ·rw [if_pos c22] at H
          have c22b0 : ((Int.tmod t466 x10_2) == 0) = true := beq_iff_eq.mpr c22
          have c22b1 : ((Int.tmod t466 x10_2) != 0) = false := bne_eq_false_iff_eq.mpr c22
          clear c22
          by_cases c23 : (Int.tmod t467 x10_2) = 0
          ·rw [if_pos c23] at H
           have c23b0 : ((Int.tmod t467 x10_2) == 0) = true := beq_iff_eq.mpr c23
           have c23b1 : ((Int.tmod t467 x10_2) != 0) = false := bne_eq_false_iff_eq.mpr c23
           clear c23
           obtain rfl := Option.some.inj H
           go_wp2
           go_ret
           exact ⟨by first | rfl | (simp [errW_none, errW_some] <;> rfl) | (simp [*, errW_none, errW_some] <;> rfl), hzs HB⟩
          ·rw [if_neg c23] at H
           have c23b0 : ((Int.tmod t467 x10_2) == 0) = false := beq_eq_false_iff_ne.mpr c23
           have c23b1 : ((Int.tmod t467 x10_2) != 0) = true := bne_iff_ne.mpr c23
           have H' := Aside0.mk H
           clear H
           go_wp2
           go_roundg k2
           case measure => have := HJ5.out; have := HK2.out; omega
           case rel => exact ⟨(wrap64 (x10_2 + 1)), (by first | rfl | (simp; done) | (simp [*]; done)), H', ⟨by have := HJ5.out; have := HK2.out; omega⟩, ⟨by (with_reducible repeat (first | apply Kd.N_alloc | apply Kd.N_drewN | apply Kd.N_drew)); exact HO_463003.out⟩, ⟨bk BK462⟩, ⟨hzs HB⟩⟩
         ·rw [if_neg c22] at H
          have c22b0 : ((Int.tmod t466 x10_2) == 0) = false := beq_eq_false_iff_ne.mpr c22
          have c22b1 : ((Int.tmod t466 x10_2) != 0) = true := bne_iff_ne.mpr c22
          have H' := Aside0.mk H
          clear H
          go_wp2
          go_roundg k2
          case measure => have := HJ5.out; have := HK2.out; omega
          case rel => exact ⟨(wrap64 (x10_2 + 1)), (by first | rfl | (simp; done) | (simp [*]; done)), H', ⟨by have := HJ5.out; have := HK2.out; omega⟩, ⟨by (with_reducible repeat (first | apply Kd.N_alloc | apply Kd.N_drewN | apply Kd.N_drew)); exact HO_463003.out⟩, ⟨bk BK462⟩, ⟨hzs HB⟩⟩
       ·rw [if_neg c20] at H
        have c20b0 : decide (x10_2 < 50) = false := decide_eq_false c20
        clear c20
        by_cases c24 : t467 ≥ 1
        ·rw [if_pos c24] at H
         have c24b0 : decide (1 ≤ t467) = true := decide_eq_true c24
         clear c24
         by_cases c25 : t466 = 0
         ·rw [if_pos c25] at H
          have c25b0 : (t466 == 0) = true := beq_iff_eq.mpr c25
          have c25b1 : (t466 != 0) = false := bne_eq_false_iff_eq.mpr c25
          clear c25
          obtain rfl := Option.some.inj H
          go_wp2
          go_ret
          exact ⟨by first | rfl | (simp [errW_none, errW_some] <;> rfl) | (simp [*, errW_none, errW_some] <;> rfl), hzs HB⟩
         ·rw [if_neg c25] at H
          have c25b0 : (t466 == 0) = false := beq_eq_false_iff_ne.mpr c25
          have c25b1 : (t466 != 0) = true := bne_iff_ne.mpr c25
          obtain rfl := Option.some.inj H
          go_wp2
          go_ret
          exact ⟨by first | rfl | (simp [errW_none, errW_some] <;> rfl) | (simp [*, errW_none, errW_some] <;> rfl), hzs HB⟩
        ·rw [if_neg c24] at H
         have c24b0 : decide (1 ≤ t467) = false := decide_eq_false c24
         clear c24
         obtain rfl := Option.some.inj H
         go_wp2
         go_ret
         exact ⟨by first | rfl | (simp [errW_none, errW_some] <;> rfl) | (simp [*, errW_none, errW_some] <;> rfl), hzs HB⟩


theorem drawExprRat_tells {l : List Int} (hl : Bytes l) {k : Nat} (hk : 1400 ≤ k) : ∃ f0 f1 f2 m, spec_DrawExprRat.f k l = some (f0, f1, f2, m) ∧ nodes ⟨f0, f1, f2, m⟩ ≤ 63 := by
 unfold spec_DrawExprRat.f
 obtain ⟨b, h1, h2, h3⟩ := open_tells hl
 rw [h1]; simp only [Option.bind_some]
 obtain ⟨v, r1, r2, r3⟩ := pick_tells h2 h3 (show (0 : Int) ≤ 0 by omega) (by omega) (show (8 : Int) < 1073741824 by omega) (k := k) (by omega)
 rw [r1]; simp only [Option.bind_some]
 obtain ⟨g0, g1, g2, m, p, q1, q2, q3, q4⟩ := bent_tells h2 h3 (decide (v > 0)) (show (0 : Int) ≤ 0 + 1 by omega) (by omega) (k := k) (by omega)
 rw [q1]; simp only [Option.bind_some]
 exact ⟨_, _, _, _, rfl, q2⟩
theorem gcd1_no {a b i : Int} (g : Int.gcd a b = 1) (hi : 2 ≤ i) (h1 : Int.tmod a i = 0) (h2 : Int.tmod b i = 0) : False := by
 have d1 := Int.dvd_of_tmod_eq_zero h1
 have d2 := Int.dvd_of_tmod_eq_zero h2
 have d := Int.dvd_coe_gcd d1 d2
 rw [g] at d
 have := Int.le_of_dvd (by decide) d
 omega
theorem gcd1_z {b : Int} (g : Int.gcd 0 b = 1) (hb : 0 < b) : b = 1 := by
 rw [Int.gcd_zero_left] at g
 omega
theorem least_loop {a b : Int} (hb : 1 ≤ b) (g : Int.gcd a b = 1) (d : Nat) : ∀ (i : Int) (k : Nat), 2 ≤ i → i + d = 50 → d + 1 ≤ k → laws_FnExprLeast.l0 k a b i = some true := by
 induction d with
 | zero =>
  intro i k h1 h2 h3
  obtain ⟨k, rfl⟩ : ∃ q, k = q + 1 := ⟨k - 1, by omega⟩
  rw [laws_FnExprLeast.l0, if_neg (by omega), if_pos (by omega)]
  by_cases c : a = 0
  ·rw [if_pos c]
   rw [c] at g
   rw [gcd1_z g (by omega)]
   rfl
  ·rw [if_neg c]
 | succ d ih =>
  intro i k h1 h2 h3
  obtain ⟨k, rfl⟩ : ∃ q, k = q + 1 := ⟨k - 1, by omega⟩
  rw [laws_FnExprLeast.l0, if_pos (by omega), if_neg (by omega), w64 (x := i + 1) (by omega) (by omega), ih (i + 1) k (by omega) (by omega) (by omega)]
  by_cases c1 : Int.tmod a i = 0
  ·rw [if_pos c1]
   by_cases c2 : Int.tmod b i = 0
   ·exact (gcd1_no g h1 c1 c2).elim
   ·rw [if_neg c2]
  ·rw [if_neg c1]
theorem FnExprLeast_pure {l0 : List Int} (hl : Bytes l0) {k : Nat} (hk : 3000 ≤ k) : laws_FnExprLeast.f k l0 = some true := by
 unfold laws_FnExprLeast.f
 by_cases h : (l0.length : Int) > 1048576
 ·rw [if_pos h]
 rw [if_neg h]
 obtain ⟨f0, f1, f2, m, q, hn⟩ := drawExprRat_tells hl (k := k) (by omega)
 rw [q]; simp only [Option.bind_some]
 have e1 := ExprRat_is (e := ⟨f0, f1, f2, m⟩) (by omega) (k := k) (by omega)
 dsimp only at e1
 rw [e1.1, e1.2]
 simp only [Option.bind_some, bne_self_eq_false, Bool.false_eq_true, if_false, if_true]
 obtain ⟨k, rfl⟩ : ∃ q, k = q + 1 := ⟨k - 1, by omega⟩
 rw [laws_FnExprLeast.j0]
 by_cases c : (ratR ⟨f0, f1, f2, m⟩).2.2 = true
 ·have n := (ratR_ok ⟨f0, f1, f2, m⟩).num c
  rw [c, Bool.not_true, if_neg (show ¬ (false = true) by decide)]
  have nb := n.1.2.1
  exact least_loop (by omega) n.2 48 2 k (by omega) (by omega) (by omega)
 ·have c2 : (ratR ⟨f0, f1, f2, m⟩).2.2 = false := by simpa using c
  simp [c2]
theorem FnExprLeast_true (A0 : Option Addr) (c0 : Nat) (l0 : List Int) (w : World) (hr0 : Kd.C (Kd.int .u8) w A0 l0.length l0) (hc0 : l0.length ≤ c0) (hw0 : ∀ x ∈ l0, (Lit.int .u8 x).wf = true) :
  Calls Try.prog 9 #[.slice A0 l0.length c0] w fun e w' => e = .returned (.bool true) ∧ Below w.heap.size w w' :=
 laws_FnExprLeast.calls 3000 A0 c0 l0 true w hr0 hc0 (FnExprLeast_pure (bytes_of hw0) (by omega))

end Go.Proofs.Ytlodpfddimeffaa.M
