import Derived.Test.YtlodpfddimeffaaPe
import Derived.Test.YtlodpfddimeffaaP7
namespace Go.Proofs.Ytlodpfddimeffaa.M
open Go.RowKit Go.Proofs.YtlodpfddimeffaaW.PrintWords Go.Proofs.YtlodpfddimeffaaW.PrintLast Go.Proofs.YtlodpfddimeffaaW.PrintMore
attribute [local go_sem] max2_int min2_int max_two min_two max_three min_three max_four min_four
attribute [local go_sem high] eqA31
attribute [local go_sem] fld31_0 fld31_1 fld25_0 fld25_1 fld25_2 fld25_3
set_option linter.unusedVariables false
set_option linter.unusedSimpArgs false
/-! ### laws_FnExactExprRound: function 14 -/
def laws_FnExactExprRound.j0 : Nat → Bool → Int → Int → Int → List (S38) → Int → Int → Int → List (S25) → Option (Bool)
 | 0, _, _, _, _, _, _, _, _, _ => none
 | k + 1, x42, x484000, x484001, x484002, x484003, x500000, x500001, x500002, x500003 => if x42 = true then (some false) else ((laws_toExpr.f k x484000 x484001 x484002 x484003).bind fun bt502 => ((laws_eqExpr.f k x500000 x500001 x500002 x500003 bt502.1 bt502.2.1 bt502.2.2.1 bt502.2.2.2).bind fun t508 => (if t508 = true then (some true) else (some false))))
def laws_FnExactExprRound.f (k : Nat) (a0_0 : Int) (a0_1 : Int) (a0_2 : Int) (l0_3 : List (S38)) (a1 : Int) (a2 : Int) : Option (Bool) := (laws_szExpr.f k a0_0 a0_1 a0_2 l0_3 1048576).bind fun t484 => (if t484 < 0 then (some true) else ((laws_toExpr.f k a0_0 a0_1 a0_2 l0_3).bind fun bt485 => ((spec_ExprRound.f k bt485.1 bt485.2.1 bt485.2.2.1 bt485.2.2.2 a1 a2).bind fun bt491 => ((laws_toExpr.f k a0_0 a0_1 a0_2 l0_3).bind fun bt493 => ((impl_ExprRound.f k bt493.1 bt493.2.1 bt493.2.2.1 bt493.2.2.2 a1 a2).bind fun bt500 => (if bt500.1 = bt491.1 then (laws_FnExactExprRound.j0 k (bt500.2 != bt491.2) a0_0 a0_1 a0_2 l0_3 bt493.1 bt493.2.1 bt493.2.2.1 bt493.2.2.2) else (laws_FnExactExprRound.j0 k true a0_0 a0_1 a0_2 l0_3 bt493.1 bt493.2.1 bt493.2.2.1 bt493.2.2.2)))))))
set_option maxHeartbeats 8000000 in
set_option maxRecDepth 100000 in
theorem laws_FnExactExprRound.calls (k : Nat) (a0_0 : Int) (a0_1 : Int) (a0_2 : Int) (A0_3 : Option Addr) (c0_3 : Nat) (l0_3 : List (S38)) (a1 : Int) (a2 : Int) (r : Bool) (w : World) (hr0_3 : Kd.C k38 w A0_3 l0_3.length l0_3) (hc0_3 : l0_3.length ≤ c0_3) (h : laws_FnExactExprRound.f k a0_0 a0_1 a0_2 l0_3 a1 a2 = some r) :
  Calls Try.prog 14 #[.agg #[.int .i64 a0_0, .int .i64 a0_1, .int .i64 a0_2, .slice A0_3 l0_3.length c0_3], .int .i64 a1, .int .i64 a2] w fun e w' => e = .returned (.bool r) ∧ Below w.heap.size w w' := by
 have hu38 := Try.underlying38
 have hu25 := Try.underlying25
 have HR0_3 := Aside0.mk hr0_3
 have HC0_3 := Aside0.mk hc0_3
 clear hr0_3 hc0_3
 have HB := Aside0.mk (Below.refl w.heap.size w)
 have H := h
 clear h
 unfold laws_FnExactExprRound.f at H
 replace H := Option.bind_eq_some_iff.mp H
 obtain ⟨t484, A40, H⟩ := H
 try dsimp only at H
 have A4 := Aside0.mk A40
 clear A40
 by_cases c5 : t484 < 0
 ·rw [if_pos c5] at H
  have c5b0 : decide (t484 < 0) = true := decide_eq_true c5
  clear c5
  obtain rfl := Option.some.inj H
  go_enter Try.func14, Try.ntmps14
  go_wp2_with (first | ((with_reducible refine gate_dst (N := 3) rfl ?_); refine bE 3 #[.int .i64 a0_0, .int .i64 a0_1, .int .i64 a0_2, .slice A0_3 l0_3.length c0_3] 38 ?_; intro gb483 hg w6 hbox hb; have BK483 := Aside0.mk (hbox); have GE483 := gw hg (hz0 HB); have GW483 := GE483; replace HB := hbb (hz0 HB) hb; clear hb hbox hg; obtain ⟨hcz7_0, hcz7_1, hcz7_2, hcz7_3, hfz7_0, hfz7_1, hfz7_2, hfz7_3⟩ := cz4 BK483) | ((with_reducible refine gate_callee (f := 20) rfl ?_); refine gL 15 Try.func20 #[.agg #[.int .i64 a0_0, .int .i64 a0_1, .int .i64 a0_2, .slice A0_3 l0_3.length c0_3], .int .i64 1048576] ?_; (with_reducible refine (laws_szExpr.calls k a0_0 a0_1 a0_2 _ _ l0_3 1048576 t484 _ ?side1 ?side2 A4.out).mono ?_); (case side1 => repeat (first | exact (Kd.C_below HR0_3.out HB.out) | (with_reducible refine Kd.C_alloc ?_ _) | (with_reducible refine Kd.C_drewN ?_ _) | (with_reducible refine Kd.C_drew ?_))); (case side2 => exact HC0_3.out); rintro e w8 ⟨rfl, hb⟩; refine ⟨_, rfl, ?_⟩; replace BK483 := bb (bk BK483) hb; replace HB := hbb (hzs HB) hb; clear hb))
  go_ret
  exact ⟨by first | rfl | (simp [errW_none, errW_some] <;> rfl) | (simp [*, errW_none, errW_some] <;> rfl), hzs HB⟩
 ·rw [if_neg c5] at H
  have c5b0 : decide (t484 < 0) = false := decide_eq_false c5
  clear c5
  replace H := Option.bind_eq_some_iff.mp H
  obtain ⟨⟨t485, t486, t487, t488⟩, A90, H⟩ := H
  try dsimp only at H
  have A9 := Aside0.mk A90
  clear A90
  replace H := Option.bind_eq_some_iff.mp H
  obtain ⟨⟨t491, t492⟩, A100, H⟩ := H
  try dsimp only at H
  have A10 := Aside0.mk A100
  clear A100
  replace H := Option.bind_eq_some_iff.mp H
  obtain ⟨⟨t493, t494, t495, t496⟩, A110, H⟩ := H
  try dsimp only at H
  have A11 := Aside0.mk A110
  clear A110
  replace H := Option.bind_eq_some_iff.mp H
  obtain ⟨⟨t500, t501⟩, A120, H⟩ := H
  try dsimp only at H
  have A12 := Aside0.mk A120
  clear A120
  have HC13 := Aside0.mk H
  clear H
  go_enter Try.func14, Try.ntmps14
  go_upto_region 8 with (first | ((with_reducible refine gate_dst (N := 3) rfl ?_); refine bE 3 #[.int .i64 a0_0, .int .i64 a0_1, .int .i64 a0_2, .slice A0_3 l0_3.length c0_3] 38 ?_; intro gb483 hg w14 hbox hb; have BK483 := Aside0.mk (hbox); have GE483 := gw hg (hz0 HB); have GW483 := GE483; replace HB := hbb (hz0 HB) hb; clear hb hbox hg; obtain ⟨hcz15_0, hcz15_1, hcz15_2, hcz15_3, hfz15_0, hfz15_1, hfz15_2, hfz15_3⟩ := cz4 BK483) | ((with_reducible refine gate_callee (f := 20) rfl ?_); refine gL 15 Try.func20 #[.agg #[.int .i64 a0_0, .int .i64 a0_1, .int .i64 a0_2, .slice A0_3 l0_3.length c0_3], .int .i64 1048576] ?_; (with_reducible refine (laws_szExpr.calls k a0_0 a0_1 a0_2 _ _ l0_3 1048576 t484 _ ?side1 ?side2 A4.out).mono ?_); (case side1 => repeat (first | exact (Kd.C_below HR0_3.out HB.out) | (with_reducible refine Kd.C_alloc ?_ _) | (with_reducible refine Kd.C_drewN ?_ _) | (with_reducible refine Kd.C_drew ?_))); (case side2 => exact HC0_3.out); rintro e w16 ⟨rfl, hb⟩; refine ⟨_, rfl, ?_⟩; replace BK483 := bb (bk BK483) hb; replace HB := hbb (hzs HB) hb; clear hb; obtain ⟨hcz17_0, hcz17_1, hcz17_2, hcz17_3, hfz17_0, hfz17_1, hfz17_2, hfz17_3⟩ := cz4 BK483) | ((with_reducible refine gate_callee (f := 22) rfl ?_); refine gL 20 Try.func22 #[.agg #[.int .i64 a0_0, .int .i64 a0_1, .int .i64 a0_2, .slice A0_3 l0_3.length c0_3]] ?_; (with_reducible refine (laws_toExpr.calls k a0_0 a0_1 a0_2 _ _ l0_3 t485 t486 t487 t488 _ ?side1 ?side2 A9.out).mono ?_); (case side1 => repeat (first | exact (Kd.C_below HR0_3.out HB.out) | (with_reducible refine Kd.C_alloc ?_ _) | (with_reducible refine Kd.C_drewN ?_ _) | (with_reducible refine Kd.C_drew ?_))); (case side2 => exact HC0_3.out); rintro e w18 ⟨v489, rfl, ho0, hb⟩; refine ⟨_, rfl, ?_⟩; have HO490 := Aside0.mk (Kd.R_lower ho0 (below_size (hzs HB))); replace BK483 := bb (bk BK483) hb; replace HB := hbb (hzs HB) hb; (try clear hb); (try clear hb2); (try clear hk); (try clear hi); (try clear ho0); obtain ⟨Ao19, co19, eo19⟩ := Kd.R_slice HO490.out; subst eo19) | ((with_reducible refine gate_callee (f := 16) rfl ?_); refine gL 23 Try.func16 #[.agg #[.int .i64 t485, .int .i64 t486, .int .i64 t487, .slice Ao19 t488.length co19], .int .i64 a1, .int .i64 a2] ?_; (with_reducible refine (spec_ExprRound.calls k t485 t486 t487 _ _ t488 a1 a2 t491 t492 _ ?side1 ?side2 A10.out).mono ?_); (case side1 => repeat (first | exact (Kd.R_reads' HO490.out).2.2 | (with_reducible refine Kd.C_alloc ?_ _) | (with_reducible refine Kd.C_drewN ?_ _) | (with_reducible refine Kd.C_drew ?_))); (case side2 => exact (Kd.R_reads' HO490.out).2.1); rintro e w20 ⟨rfl, hb⟩; refine ⟨_, rfl, ?_⟩; replace HO490 := Aside0.mk (Kd.R_below (by (with_reducible repeat (first | apply Kd.R_alloc | apply Kd.R_drewN | apply Kd.R_drew)); exact HO490.out) hb); replace BK483 := bb (bk BK483) hb; replace HB := hbb (hzs HB) hb; clear hb; obtain ⟨hcz21_0, hcz21_1, hcz21_2, hcz21_3, hfz21_0, hfz21_1, hfz21_2, hfz21_3⟩ := cz4 BK483) | ((with_reducible refine gate_callee (f := 22) rfl ?_); refine gL 27 Try.func22 #[.agg #[.int .i64 a0_0, .int .i64 a0_1, .int .i64 a0_2, .slice A0_3 l0_3.length c0_3]] ?_; (with_reducible refine (laws_toExpr.calls k a0_0 a0_1 a0_2 _ _ l0_3 t493 t494 t495 t496 _ ?side1 ?side2 A11.out).mono ?_); (case side1 => repeat (first | exact (Kd.C_below HR0_3.out HB.out) | (with_reducible refine Kd.C_alloc ?_ _) | (with_reducible refine Kd.C_drewN ?_ _) | (with_reducible refine Kd.C_drew ?_))); (case side2 => exact HC0_3.out); rintro e w22 ⟨v497, rfl, ho0, hb⟩; refine ⟨_, rfl, ?_⟩; have HO498 := Aside0.mk (Kd.R_lower (Kd.R_new' ho0 (Kd.R_lt (by (with_reducible repeat (first | apply Kd.R_alloc | apply Kd.R_drewN | apply Kd.R_drew)); exact HO490.out))) (below_size (hzs HB))); replace HO490 := Aside0.mk (Kd.R_elder' (by (with_reducible repeat (first | apply Kd.R_alloc | apply Kd.R_drewN | apply Kd.R_drew)); exact HO490.out) (Kd.R_base ho0) hb); replace BK483 := bb (bk BK483) hb; replace HB := hbb (hzs HB) hb; (try clear hb); (try clear hb2); (try clear hk); (try clear hi); (try clear ho0)) | ((with_reducible refine gate_dst (N := 10) rfl ?_); refine bE 10 #[.int .i64 0, .int .i64 0, .int .i64 0, .slice none 0 0] 25 ?_; intro gb499 hg w23 hbox hb; have BK499 := Aside0.mk (hbox); have GE499 := gw hg (hzs HB); have NB483_499 := nl hg (bk BK483); have NB499_483 := ng hg (bk BK483); replace HO490 := Aside0.mk (Kd.R_below (Kd.R_elderB (by (with_reducible repeat (first | apply Kd.R_alloc | apply Kd.R_drewN | apply Kd.R_drew)); exact HO490.out) gb499 (Nat.le_of_eq hg.symm)) hb); replace HO498 := Aside0.mk (Kd.R_below (Kd.R_elderB (by (with_reducible repeat (first | apply Kd.R_alloc | apply Kd.R_drewN | apply Kd.R_drew)); exact HO498.out) gb499 (Nat.le_of_eq hg.symm)) hb); replace BK483 := bb (bk BK483) hb; replace HB := hbb (hzs HB) hb; clear hb hbox hg; have hnb24 := NB499_483.out; have hnc24 := NB483_499.out; obtain ⟨hcz25_0, hcz25_1, hcz25_2, hcz25_3, hfz25_0, hfz25_1, hfz25_2, hfz25_3⟩ := cz4 BK499; obtain ⟨Ao26, co26, eo26⟩ := Kd.R_slice HO498.out; subst eo26) | ((with_reducible refine gate_callee (f := 17) rfl ?_); refine gL 32 Try.func17 #[.agg #[.int .i64 t493, .int .i64 t494, .int .i64 t495, .slice Ao26 t496.length co26], .int .i64 a1, .int .i64 a2] ?_; (with_reducible refine (impl_ExprRound.calls k t493 t494 t495 _ _ t496 a1 a2 t500 t501 _ ?side1 ?side2 A12.out).mono ?_); (case side1 => refine (Kd.R_reads' (e := 25) (base := w.heap.size) (ok := fun k_ => ((True ∧ some k_ ≠ (.slice Ao19 t488.length co19 : Value).ownBlock) ∧ k_ ≠ gb499)) (n := t496.length) (c := co26) ?_).2.2; exact (by (with_reducible repeat (first | apply Kd.R_alloc | apply Kd.R_drewN | apply Kd.R_drew)); exact (Kd.R_mono (Kd.R_far (p := ⟨gb499, 3, none⟩) (Kd.R_far (p := ⟨gb499, 2, none⟩) (Kd.R_far (p := ⟨gb499, 1, none⟩) (Kd.R_far (p := ⟨gb499, 0, none⟩) (Kd.R_mono HO498.out (fun k_ hk => (⟨hk, hk.2⟩ : _ ∧ k_ ≠ gb499))) (fun _ hk => hk.2) (.int .i64 t493)) (fun _ hk => hk.2) (.int .i64 t494)) (fun _ hk => hk.2) (.int .i64 t495)) (fun _ hk => hk.2) (.slice Ao26 t496.length co26)) (fun _ h_ => h_.1)))); (case side2 => exact (Kd.R_reads' HO498.out).2.1); rintro e w27 ⟨rfl, hb⟩; refine ⟨_, rfl, ?_⟩; replace HO490 := Aside0.mk (Kd.R_below (by (with_reducible repeat (first | apply Kd.R_alloc | apply Kd.R_drewN | apply Kd.R_drew)); exact (Kd.R_mono (Kd.R_far (p := ⟨gb499, 3, none⟩) (Kd.R_far (p := ⟨gb499, 2, none⟩) (Kd.R_far (p := ⟨gb499, 1, none⟩) (Kd.R_far (p := ⟨gb499, 0, none⟩) (Kd.R_mono HO490.out (fun k_ hk => (⟨hk, hk.2⟩ : _ ∧ k_ ≠ gb499))) (fun _ hk => hk.2) (.int .i64 t493)) (fun _ hk => hk.2) (.int .i64 t494)) (fun _ hk => hk.2) (.int .i64 t495)) (fun _ hk => hk.2) (.slice Ao26 t496.length co26)) (fun _ h_ => h_.1))) hb); replace HO498 := Aside0.mk (Kd.R_below (by (with_reducible repeat (first | apply Kd.R_alloc | apply Kd.R_drewN | apply Kd.R_drew)); exact (Kd.R_mono (Kd.R_far (p := ⟨gb499, 3, none⟩) (Kd.R_far (p := ⟨gb499, 2, none⟩) (Kd.R_far (p := ⟨gb499, 1, none⟩) (Kd.R_far (p := ⟨gb499, 0, none⟩) (Kd.R_mono HO498.out (fun k_ hk => (⟨hk, hk.2⟩ : _ ∧ k_ ≠ gb499))) (fun _ hk => hk.2) (.int .i64 t493)) (fun _ hk => hk.2) (.int .i64 t494)) (fun _ hk => hk.2) (.int .i64 t495)) (fun _ hk => hk.2) (.slice Ao26 t496.length co26)) (fun _ h_ => h_.1))) hb); replace BK483 := bb (bk1 BK483 NB483_499) hb; replace BK499 := Aside0.mk (blk_below (g := gb499) (o := .cells #[.int .i64 t493, .int .i64 t494, .int .i64 t495, .slice Ao26 t496.length co26] 25 (0, 0)) (by (with_reducible repeat (first | refine blk_drewN ?_ _ | refine blk_drew ?_ | refine blk_alloc ?_ _)); refine blk_put (cs := #[.int .i64 t493, .int .i64 t494, .int .i64 t495, .slice none 0 0]) ?_ 3 _ rfl; (with_reducible repeat (first | refine blk_drewN ?_ _ | refine blk_drew ?_ | refine blk_alloc ?_ _)); refine blk_put (cs := #[.int .i64 t493, .int .i64 t494, .int .i64 0, .slice none 0 0]) ?_ 2 _ rfl; (with_reducible repeat (first | refine blk_drewN ?_ _ | refine blk_drew ?_ | refine blk_alloc ?_ _)); refine blk_put (cs := #[.int .i64 t493, .int .i64 0, .int .i64 0, .slice none 0 0]) ?_ 1 _ rfl; (with_reducible repeat (first | refine blk_drewN ?_ _ | refine blk_drew ?_ | refine blk_alloc ?_ _)); refine blk_put (cs := #[.int .i64 0, .int .i64 0, .int .i64 0, .slice none 0 0]) ?_ 0 _ rfl; (with_reducible repeat (first | refine blk_drewN ?_ _ | refine blk_drew ?_ | refine blk_alloc ?_ _)); exact BK499.out) hb); replace HB := hbb (hzs HB) hb; clear hb))
  (try simp only [Act.put, List.setIfInBounds_toArray, List.set_cons_zero, List.set_cons_succ])
  go_cut [42] (fun v42 wc => ∃ (kq : Nat) (x42_12 : Bool), v42 = .bool x42_12 ∧ Aside0 (laws_FnExactExprRound.j0 kq x42_12 a0_0 a0_1 a0_2 l0_3 t493 t494 t495 t496 = some r) ∧ Aside0 (kq ≤ k) ∧ Aside0 (Kd.R k25 25 wc w.heap.size (fun k_ => k_ ≠ gb499) (.slice Ao26 t496.length co26) t496) ∧ Aside0 (wc.heap[gb483]? = some (.cells #[.int .i64 a0_0, .int .i64 a0_1, .int .i64 a0_2, (.slice A0_3 l0_3.length c0_3)] 38 (0, 0))) ∧ Aside0 (wc.heap[gb499]? = some (.cells #[.int .i64 t493, .int .i64 t494, .int .i64 t495, (.slice Ao26 t496.length co26)] 25 (0, 0))) ∧ Aside0 (Below w.heap.size w wc))
  case first =>
   have H := HC13.out
   clear HC13
   by_cases c28 : t500 = t491
   ·rw [if_pos c28] at H
    have c28b0 : (t500 == t491) = true := beq_iff_eq.mpr c28
    have c28b1 : (t500 != t491) = false := bne_eq_false_iff_eq.mpr c28
    clear c28
    (first | rw [c28b0] | (simp only [i64_w, i32_w]; rw [c28b0]) | skip)
    have H' := Aside0.mk H
    clear H
    go_wp2
    go_meet
    case rel => exact ⟨_, ((t501 != t492)), (by first | rfl | (simp; done) | (simp [*]; done)), H', ⟨by first | omega | exact Nat.le_refl _⟩, ⟨by (with_reducible repeat (first | apply Kd.R_alloc | apply Kd.R_drewN | apply Kd.R_drew)); exact Kd.R_mono HO498.out (fun _ hk => hk.2)⟩, ⟨bk BK483⟩, ⟨bk BK499⟩, ⟨hzs HB⟩⟩
   ·rw [if_neg c28] at H
    have c28b0 : (t500 == t491) = false := beq_eq_false_iff_ne.mpr c28
    have c28b1 : (t500 != t491) = true := bne_iff_ne.mpr c28
    (first | rw [c28b0] | (simp only [i64_w, i32_w]; rw [c28b0]) | skip)
    have H' := Aside0.mk H
    clear H
    go_wp2
    go_meet
    case rel => exact ⟨_, (true), (by first | rfl | (simp; done) | (simp [*]; done)), H', ⟨by first | omega | exact Nat.le_refl _⟩, ⟨by (with_reducible repeat (first | apply Kd.R_alloc | apply Kd.R_drewN | apply Kd.R_drew)); exact Kd.R_mono HO498.out (fun _ hk => hk.2)⟩, ⟨bk BK483⟩, ⟨bk BK499⟩, ⟨hzs HB⟩⟩
  case rest =>
   clear HC13
   try clear c1
   try clear c2
   try clear p2
   try clear c5
   try clear c5b0
   try clear c14
   try clear c16
   try clear c17
   try clear c20
   try clear c22
   try clear c24
   try clear c28
   try clear c28b0
   try clear c28b1
   try clear hcz15_0 hcz15_1 hcz15_2 hcz15_3
   try clear hcz17_0 hcz17_1 hcz17_2 hcz17_3
   try clear hcz21_0 hcz21_1 hcz21_2 hcz21_3
   try clear hcz25_0 hcz25_1 hcz25_2 hcz25_3
   try clear hcz7_0 hcz7_1 hcz7_2 hcz7_3
   try clear hfz15_0 hfz15_1 hfz15_2 hfz15_3
   try clear hfz17_0 hfz17_1 hfz17_2 hfz17_3
   try clear hfz21_0 hfz21_1 hfz21_2 hfz21_3
   try clear hfz25_0 hfz25_1 hfz25_2 hfz25_3
   try clear hfz7_0 hfz7_1 hfz7_2 hfz7_3
   obtain ⟨kq, x42_12, rfl, HA, HJ12, HO_500003, BK483, BK499, HB⟩ := hcut
   cases kq with
   | zero => exact absurd HA.out (by simp [laws_FnExactExprRound.j0])
   | succ kj12 =>
    have H := HA.out
    clear HA
    simp only [laws_FnExactExprRound.j0] at H
    by_cases c29 : x42_12 = true
    ·subst c29
     rw [if_pos rfl] at H
     obtain rfl := Option.some.inj H
     go_wp2
     go_ret
     exact ⟨by first | rfl | (simp [errW_none, errW_some] <;> rfl) | (simp [*, errW_none, errW_some] <;> rfl), hzs HB⟩
    ·replace c29 := Bool.eq_false_iff.mpr c29
     subst c29
     rw [if_neg (show ¬ (false = true) by decide)] at H
     replace H := Option.bind_eq_some_iff.mp H
     obtain ⟨⟨t502, t503, t504, t505⟩, A300, H⟩ := H
     try dsimp only at H
     have A30 := Aside0.mk A300
     clear A300
     replace H := Option.bind_eq_some_iff.mp H
     obtain ⟨t508, A310, H⟩ := H
     try dsimp only at H
     have A31 := Aside0.mk A310
     clear A310
     by_cases c32 : t508 = true
     ·subst c32
      rw [if_pos rfl] at H
      obtain rfl := Option.some.inj H
      try go_wp2
      replace HO_500003 := Aside0.mk (Kd.R_drew HO_500003.out)
      replace BK483 := Aside0.mk (blk_drew BK483.out)
      replace BK499 := Aside0.mk (blk_drew BK499.out)
      replace HB := Aside0.mk (below_drew1 HB.out)
      refine start_ (n := 5) (S := fun w' => w'.cell? ⟨gb499, 0, none⟩ = some (.int .i64 t493) ∧ w'.cell? ⟨gb499, 1, none⟩ = some (.int .i64 t494) ∧ w'.cell? ⟨gb499, 2, none⟩ = some (.int .i64 t495) ∧ w'.cell? ⟨gb499, 3, none⟩ = some (.slice Ao26 t496.length co26) ∧ w'.cell? ⟨gb483, 0, none⟩ = some (.int .i64 a0_0) ∧ w'.cell? ⟨gb483, 1, none⟩ = some (.int .i64 a0_1) ∧ w'.cell? ⟨gb483, 2, none⟩ = some (.int .i64 a0_2) ∧ w'.cell? ⟨gb483, 3, none⟩ = some (.slice A0_3 l0_3.length c0_3)) (ds := []) #[false, false, false, false, false] (by kernel_rfl) rfl rfl ⟨cw0 BK499, cw1 BK499, (blk_cell BK499.out 2).trans rfl, (blk_cell BK499.out 3).trans rfl, cw0 BK483, cw1 BK483, (blk_cell BK483.out 2).trans rfl, (blk_cell BK483.out 3).trans rfl⟩ (fun hHeld => ?_)
      generalize wc.drew = w33 at HO_500003 BK483 BK499 HB hHeld ⊢
      refine take_ (i := 0) (N := some 43) (v := ?_) (a' := ?_) #[true, false, false, false, false] rfl rfl (by kernel_rfl) (fun _ _ _ h => h) (Or.inl ⟨by rfl, ?_⟩) hHeld ?_ ?_
      rotate_left
      ·rintro w' ⟨s0, s1, s2, s3, s4, s5, s6, s7⟩
       go_simp
       with_reducible rfl
      rotate_left
      ·simp only [Act.put, List.setIfInBounds_toArray, List.set_cons_zero, List.set_cons_succ, i64_w, i32_w]
       rfl
      refine take_ (i := 1) (N := some 44) (v := ?_) (a' := ?_) #[true, true, false, false, false] rfl rfl (by kernel_rfl) (fun _ _ _ h => h) (Or.inl ⟨by rfl, ?_⟩) hHeld ?_ ?_
      rotate_left
      ·rintro w' ⟨s0, s1, s2, s3, s4, s5, s6, s7⟩
       go_simp
       with_reducible rfl
      rotate_left
      ·simp only [Act.put, List.setIfInBounds_toArray, List.set_cons_zero, List.set_cons_succ, i64_w, i32_w]
       rfl
      refine one_ (i := 2) (N := some 45) #[true, true, true, false, false] rfl rfl (by kernel_rfl) (by decide) (fun K hK => ?_)
      refine gS Try.func22 #[.agg #[.int .i64 a0_0, .int .i64 a0_1, .int .i64 a0_2, .slice A0_3 l0_3.length c0_3]] ?_
      with_reducible refine (laws_toExpr.calls kj12 a0_0 a0_1 a0_2 _ _ l0_3 t502 t503 t504 t505 _ ?side1 ?side2 A30.out).mono ?_
      (case side1 => repeat (first | exact (Kd.C_below HR0_3.out HB.out) | (with_reducible refine Kd.C_alloc ?_ _) | (with_reducible refine Kd.C_drewN ?_ _) | (with_reducible refine Kd.C_drew ?_)))
      (case side2 => exact HC0_3.out)
      rintro e w34 ⟨v506, rfl, ho0, hb⟩
      refine ⟨_, rfl, ?_⟩
      have HO507 := Aside0.mk (Kd.R_lower (Kd.R_newB (Kd.R_new' ho0 (Kd.R_lt (by (with_reducible repeat (first | apply Kd.R_alloc | apply Kd.R_drewN | apply Kd.R_drew)); exact HO_500003.out))) (g := gb499) (o := .cells #[.int .i64 t493, .int .i64 t494, .int .i64 t495, .slice Ao26 t496.length co26] 25 (0, 0)) (bk BK499)) (below_size (hzs HB)))
      replace HO_500003 := Aside0.mk (Kd.R_elder' (by (with_reducible repeat (first | apply Kd.R_alloc | apply Kd.R_drewN | apply Kd.R_drew)); exact HO_500003.out) (Kd.R_base ho0) hb)
      replace BK483 := bb (bk BK483) hb
      replace BK499 := bb (bk BK499) hb
      replace HB := hbb (hzs HB) hb
      (try clear hb)
      (try clear hb2)
      (try clear hk)
      (try clear hi)
      (try clear ho0)
      obtain ⟨Ao35, co35, eo35⟩ := Kd.R_slice HO507.out
      (first | subst eo35 | (injection eo35 with f1_ f2_ f3_; have f4_ := f1_.symm; have f5_ := f3_.symm; clear f1_ f2_ f3_; subst f4_; subst f5_))
      refine hK.out _ _ ⟨cw0 BK499, cw1 BK499, (blk_cell BK499.out 2).trans rfl, (blk_cell BK499.out 3).trans rfl, cw0 BK483, cw1 BK483, (blk_cell BK483.out 2).trans rfl, (blk_cell BK483.out 3).trans rfl⟩ (fun hHeld => ?_)
      clear hK K
      refine nP ?_
      refine one_ (i := 3) (N := some 46) #[true, true, true, true, false] rfl rfl (by kernel_rfl) (by decide) (fun K hK => ?_)
      refine gS Try.func24 #[.agg #[.int .i64 t493, .int .i64 t494, .int .i64 t495, .slice Ao26 t496.length co26], .agg #[.int .i64 t502, .int .i64 t503, .int .i64 t504, .slice Ao35 t505.length co35]] ?_
      with_reducible refine (laws_eqExpr.calls kj12 t493 t494 t495 _ _ t496 t502 t503 t504 _ _ t505 true _ ?side1 ?side2 ?side3 ?side4 A31.out).mono ?_
      (case side1 => repeat (first | exact (Kd.R_reads' HO_500003.out).2.2 | (with_reducible refine Kd.C_alloc ?_ _) | (with_reducible refine Kd.C_drewN ?_ _) | (with_reducible refine Kd.C_drew ?_)))
      (case side2 => exact (Kd.R_reads' HO_500003.out).2.1)
      (case side3 => repeat (first | exact (Kd.R_reads' HO507.out).2.2 | (with_reducible refine Kd.C_alloc ?_ _) | (with_reducible refine Kd.C_drewN ?_ _) | (with_reducible refine Kd.C_drew ?_)))
      (case side4 => exact (Kd.R_reads' HO507.out).2.1)
      rintro e w36 ⟨rfl, hb⟩
      refine ⟨_, rfl, ?_⟩
      replace HO_500003 := Aside0.mk (Kd.R_below (by (with_reducible repeat (first | apply Kd.R_alloc | apply Kd.R_drewN | apply Kd.R_drew)); exact HO_500003.out) hb)
      replace HO507 := Aside0.mk (Kd.R_below (by (with_reducible repeat (first | apply Kd.R_alloc | apply Kd.R_drewN | apply Kd.R_drew)); exact HO507.out) hb)
      replace BK483 := bb (bk BK483) hb
      replace BK499 := bb (bk BK499) hb
      replace HB := hbb (hzs HB) hb
      clear hb
      refine hK.out _ _ ⟨cw0 BK499, cw1 BK499, (blk_cell BK499.out 2).trans rfl, (blk_cell BK499.out 3).trans rfl, cw0 BK483, cw1 BK483, (blk_cell BK483.out 2).trans rfl, (blk_cell BK483.out 3).trans rfl⟩ (fun hHeld => ?_)
      clear hK K
      refine nP ?_
      refine pure_ (i := 4) (N := some 47) (v := ?_) (a' := ?_) #[true, true, true, true, true] rfl rfl (by kernel_rfl) (fun _ _ _ h => h) (Or.inl ⟨by rfl, ?_⟩) ?_ ?_
      rotate_left
      ·intro w'
       go_simp
       with_reducible rfl
      rotate_left
      ·simp only [Act.put, List.setIfInBounds_toArray, List.set_cons_zero, List.set_cons_succ, i64_w, i32_w]
       rfl
      refine done_ (by kernel_rfl) ?_
      try go_wp2
      go_ret
      exact ⟨by first | rfl | (simp [errW_none, errW_some] <;> rfl) | (simp [*, errW_none, errW_some] <;> rfl), hzs HB⟩
     ·replace c32 := Bool.eq_false_iff.mpr c32
      subst c32
      rw [if_neg (show ¬ (false = true) by decide)] at H
      obtain rfl := Option.some.inj H
      try go_wp2
      replace HO_500003 := Aside0.mk (Kd.R_drew HO_500003.out)
      replace BK483 := Aside0.mk (blk_drew BK483.out)
      replace BK499 := Aside0.mk (blk_drew BK499.out)
      replace HB := Aside0.mk (below_drew1 HB.out)
      refine start_ (n := 5) (S := fun w' => w'.cell? ⟨gb499, 0, none⟩ = some (.int .i64 t493) ∧ w'.cell? ⟨gb499, 1, none⟩ = some (.int .i64 t494) ∧ w'.cell? ⟨gb499, 2, none⟩ = some (.int .i64 t495) ∧ w'.cell? ⟨gb499, 3, none⟩ = some (.slice Ao26 t496.length co26) ∧ w'.cell? ⟨gb483, 0, none⟩ = some (.int .i64 a0_0) ∧ w'.cell? ⟨gb483, 1, none⟩ = some (.int .i64 a0_1) ∧ w'.cell? ⟨gb483, 2, none⟩ = some (.int .i64 a0_2) ∧ w'.cell? ⟨gb483, 3, none⟩ = some (.slice A0_3 l0_3.length c0_3)) (ds := []) #[false, false, false, false, false] (by kernel_rfl) rfl rfl ⟨cw0 BK499, cw1 BK499, (blk_cell BK499.out 2).trans rfl, (blk_cell BK499.out 3).trans rfl, cw0 BK483, cw1 BK483, (blk_cell BK483.out 2).trans rfl, (blk_cell BK483.out 3).trans rfl⟩ (fun hHeld => ?_)
      generalize wc.drew = w37 at HO_500003 BK483 BK499 HB hHeld ⊢
      refine take_ (i := 0) (N := some 43) (v := ?_) (a' := ?_) #[true, false, false, false, false] rfl rfl (by kernel_rfl) (fun _ _ _ h => h) (Or.inl ⟨by rfl, ?_⟩) hHeld ?_ ?_
      rotate_left
      ·rintro w' ⟨s0, s1, s2, s3, s4, s5, s6, s7⟩
       go_simp
       with_reducible rfl
      rotate_left
      ·simp only [Act.put, List.setIfInBounds_toArray, List.set_cons_zero, List.set_cons_succ, i64_w, i32_w]
       rfl
      refine take_ (i := 1) (N := some 44) (v := ?_) (a' := ?_) #[true, true, false, false, false] rfl rfl (by kernel_rfl) (fun _ _ _ h => h) (Or.inl ⟨by rfl, ?_⟩) hHeld ?_ ?_
      rotate_left
      ·rintro w' ⟨s0, s1, s2, s3, s4, s5, s6, s7⟩
       go_simp
       with_reducible rfl
      rotate_left
      ·simp only [Act.put, List.setIfInBounds_toArray, List.set_cons_zero, List.set_cons_succ, i64_w, i32_w]
       rfl
      refine one_ (i := 2) (N := some 45) #[true, true, true, false, false] rfl rfl (by kernel_rfl) (by decide) (fun K hK => ?_)
      refine gS Try.func22 #[.agg #[.int .i64 a0_0, .int .i64 a0_1, .int .i64 a0_2, .slice A0_3 l0_3.length c0_3]] ?_
      with_reducible refine (laws_toExpr.calls kj12 a0_0 a0_1 a0_2 _ _ l0_3 t502 t503 t504 t505 _ ?side1 ?side2 A30.out).mono ?_
      (case side1 => repeat (first | exact (Kd.C_below HR0_3.out HB.out) | (with_reducible refine Kd.C_alloc ?_ _) | (with_reducible refine Kd.C_drewN ?_ _) | (with_reducible refine Kd.C_drew ?_)))
      (case side2 => exact HC0_3.out)
      rintro e w38 ⟨v506, rfl, ho0, hb⟩
      refine ⟨_, rfl, ?_⟩
      have HO507 := Aside0.mk (Kd.R_lower (Kd.R_newB (Kd.R_new' ho0 (Kd.R_lt (by (with_reducible repeat (first | apply Kd.R_alloc | apply Kd.R_drewN | apply Kd.R_drew)); exact HO_500003.out))) (g := gb499) (o := .cells #[.int .i64 t493, .int .i64 t494, .int .i64 t495, .slice Ao26 t496.length co26] 25 (0, 0)) (bk BK499)) (below_size (hzs HB)))
      replace HO_500003 := Aside0.mk (Kd.R_elder' (by (with_reducible repeat (first | apply Kd.R_alloc | apply Kd.R_drewN | apply Kd.R_drew)); exact HO_500003.out) (Kd.R_base ho0) hb)
      replace BK483 := bb (bk BK483) hb
      replace BK499 := bb (bk BK499) hb
      replace HB := hbb (hzs HB) hb
      (try clear hb)
      (try clear hb2)
      (try clear hk)
      (try clear hi)
      (try clear ho0)
      obtain ⟨Ao39, co39, eo39⟩ := Kd.R_slice HO507.out
      (first | subst eo39 | (injection eo39 with f1_ f2_ f3_; have f4_ := f1_.symm; have f5_ := f3_.symm; clear f1_ f2_ f3_; subst f4_; subst f5_))
      refine hK.out _ _ ⟨cw0 BK499, cw1 BK499, (blk_cell BK499.out 2).trans rfl, (blk_cell BK499.out 3).trans rfl, cw0 BK483, cw1 BK483, (blk_cell BK483.out 2).trans rfl, (blk_cell BK483.out 3).trans rfl⟩ (fun hHeld => ?_)
      clear hK K
      refine nP ?_
      refine one_ (i := 3) (N := some 46) #[true, true, true, true, false] rfl rfl (by kernel_rfl) (by decide) (fun K hK => ?_)
      refine gS Try.func24 #[.agg #[.int .i64 t493, .int .i64 t494, .int .i64 t495, .slice Ao26 t496.length co26], .agg #[.int .i64 t502, .int .i64 t503, .int .i64 t504, .slice Ao39 t505.length co39]] ?_
      with_reducible refine (laws_eqExpr.calls kj12 t493 t494 t495 _ _ t496 t502 t503 t504 _ _ t505 false _ ?side1 ?side2 ?side3 ?side4 A31.out).mono ?_
      (case side1 => repeat (first | exact (Kd.R_reads' HO_500003.out).2.2 | (with_reducible refine Kd.C_alloc ?_ _) | (with_reducible refine Kd.C_drewN ?_ _) | (with_reducible refine Kd.C_drew ?_)))
      (case side2 => exact (Kd.R_reads' HO_500003.out).2.1)
      (case side3 => repeat (first | exact (Kd.R_reads' HO507.out).2.2 | (with_reducible refine Kd.C_alloc ?_ _) | (with_reducible refine Kd.C_drewN ?_ _) | (with_reducible refine Kd.C_drew ?_)))
      (case side4 => exact (Kd.R_reads' HO507.out).2.1)
      rintro e w40 ⟨rfl, hb⟩
      refine ⟨_, rfl, ?_⟩
      replace HO_500003 := Aside0.mk (Kd.R_below (by (with_reducible repeat (first | apply Kd.R_alloc | apply Kd.R_drewN | apply Kd.R_drew)); exact HO_500003.out) hb)
      replace HO507 := Aside0.mk (Kd.R_below (by (with_reducible repeat (first | apply Kd.R_alloc | apply Kd.R_drewN | apply Kd.R_drew)); exact HO507.out) hb)
      replace BK483 := bb (bk BK483) hb
      replace BK499 := bb (bk BK499) hb
      replace HB := hbb (hzs HB) hb
      clear hb
      refine hK.out _ _ ⟨cw0 BK499, cw1 BK499, (blk_cell BK499.out 2).trans rfl, (blk_cell BK499.out 3).trans rfl, cw0 BK483, cw1 BK483, (blk_cell BK483.out 2).trans rfl, (blk_cell BK483.out 3).trans rfl⟩ (fun hHeld => ?_)
      clear hK K
      refine nP ?_
      refine pure_ (i := 4) (N := some 47) (v := ?_) (a' := ?_) #[true, true, true, true, true] rfl rfl (by kernel_rfl) (fun _ _ _ h => h) (Or.inl ⟨by rfl, ?_⟩) ?_ ?_
      rotate_left
      ·intro w'
       go_simp
       with_reducible rfl
      rotate_left
      ·simp only [Act.put, List.setIfInBounds_toArray, List.set_cons_zero, List.set_cons_succ, i64_w, i32_w]
       rfl
      refine done_ (by kernel_rfl) ?_
      try go_wp2
      go_ret
      exact ⟨by first | rfl | (simp [errW_none, errW_some] <;> rfl) | (simp [*, errW_none, errW_some] <;> rfl), hzs HB⟩


theorem FnExactExprRound_pure {l : List S38} (h1 : l.length ≤ 9223372036854775807) (h2 : fit8L l) (f0 f1 f2 : Int) (a1 a2 : Int) : laws_FnExactExprRound.f (40 * nodes8L l + 6000) f0 f1 f2 l a1 a2 = some true := by
 unfold laws_FnExactExprRound.f
 by_cases c : (nodes8L l : Int) ≤ 1048576
 ·obtain ⟨⟨t, e1, e2⟩, e3, e4, e5⟩ := exact_near h1 h2 c f0 f1 f2 (k := 40 * nodes8L l + 6000) (by omega)
  have s := ExprRound_is (e := ⟨f0, f1, f2, to8L l⟩) (by omega) a1 a2 (k := 40 * nodes8L l + 6000) (by omega)
  dsimp only at s
  rw [e1]
  simp only [Option.bind_some]
  rw [if_neg e2, e3]
  simp only [Option.bind_some]
  rw [s.1, s.2]
  obtain ⟨k, hk⟩ : ∃ q, 40 * nodes8L l + 6000 = q + 1 := ⟨40 * nodes8L l + 5999, by omega⟩
  obtain ⟨-, d3, d4, -⟩ := exact_near h1 h2 c f0 f1 f2 (k := k) (by omega)
  rw [hk]
  have j : laws_FnExactExprRound.j0 (k + 1) false f0 f1 f2 l f0 f1 f2 (to8L l) = some true := by
   rw [laws_FnExactExprRound.j0, if_neg (show ¬ (false = true) by decide), d3]
   simp only [Option.bind_some]
   rw [d4]
   rfl
  simp only [Option.bind_some, bne_self_eq_false, if_true, j]
 ·rw [exact_far h1 h2 c f0 f1 f2 (by omega)]
  rfl
theorem FnExactExprRound_true (f0 f1 f2 : Int) (A : Option Addr) (c : Nat) (l : List S38) (a1 a2 : Int) (w : World) (hr : Kd.C k38 w A l.length l) (hc : l.length ≤ c) (_ : (Lit.int .i64 a1).wf = true) (_ : (Lit.int .i64 a2).wf = true) :
  Calls Try.prog 14 #[.agg #[.int .i64 f0, .int .i64 f1, .int .i64 f2, .slice A l.length c], .int .i64 a1, .int .i64 a2] w fun e w' => e = .returned (.bool true) ∧ Below w.heap.size w w' :=
 laws_FnExactExprRound.calls _ f0 f1 f2 A c l a1 a2 true w hr hc (FnExactExprRound_pure (fit_read _ l (Nat.le_refl _) w A hr).1 (fit_read _ l (Nat.le_refl _) w A hr).2 f0 f1 f2 a1 a2)

end Go.Proofs.Ytlodpfddimeffaa.M
