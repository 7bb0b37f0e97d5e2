import Derived.Test.YtlodpfddimeffaaPe
import Derived.Test.YtlodpfddimeffaaP6
import Derived.Test.YtlodpfddimeffaaMm
namespace Go.Proofs.Ytlodpfddimeffaa.M
open Go.RowKit Go.Proofs.YtlodpfddimeffaaW.PrintWords Go.Proofs.YtlodpfddimeffaaW.PrintLast Go.Proofs.YtlodpfddimeffaaW.PrintMore
attribute [local go_sem] max2_int min2_int max_two min_two max_three min_three max_four min_four
attribute [local go_sem high] eqA31
attribute [local go_sem] fld31_0 fld31_1 fld25_0 fld25_1 fld25_2 fld25_3
set_option linter.unusedVariables false
set_option linter.unusedSimpArgs false
/-! ### laws_FnExactExprSpan: function 10 -/
def laws_FnExactExprSpan.j0 : Nat → Bool → Int → Int → Int → List (S38) → Int → Int → Int → List (S25) → Option (Bool)
 | 0, _, _, _, _, _, _, _, _, _ => none
 | k + 1, x35, x444000, x444001, x444002, x444003, x462000, x462001, x462002, x462003 => if x35 = true then (some false) else ((laws_toExpr.f k x444000 x444001 x444002 x444003).bind fun bt467 => ((laws_eqExpr.f k x462000 x462001 x462002 x462003 bt467.1 bt467.2.1 bt467.2.2.1 bt467.2.2.2).bind fun t473 => (if t473 = true then (some true) else (some false))))
def laws_FnExactExprSpan.f (k : Nat) (a0_0 : Int) (a0_1 : Int) (a0_2 : Int) (l0_3 : List (S38)) : Option (Bool) := (laws_szExpr.f k a0_0 a0_1 a0_2 l0_3 1048576).bind fun t444 => (if t444 < 0 then (some true) else ((laws_toExpr.f k a0_0 a0_1 a0_2 l0_3).bind fun bt445 => ((spec_ExprSpan.f k bt445.1 bt445.2.1 bt445.2.2.1 bt445.2.2.2).bind fun bt451 => ((laws_toExpr.f k a0_0 a0_1 a0_2 l0_3).bind fun bt455 => ((impl_ExprSpan.f k bt455.1 bt455.2.1 bt455.2.2.1 bt455.2.2.2).bind fun bt462 => ((laws_eqSpan.f bt462.1 bt462.2.1 bt451.1 bt451.2.1).bind fun t466 => (if t466 = true then (laws_FnExactExprSpan.j0 k (bt462.2.2 != bt451.2.2) a0_0 a0_1 a0_2 l0_3 bt455.1 bt455.2.1 bt455.2.2.1 bt455.2.2.2) else (laws_FnExactExprSpan.j0 k true a0_0 a0_1 a0_2 l0_3 bt455.1 bt455.2.1 bt455.2.2.1 bt455.2.2.2))))))))
set_option maxHeartbeats 8000000 in
set_option maxRecDepth 100000 in
theorem laws_FnExactExprSpan.calls (k : Nat) (a0_0 : Int) (a0_1 : Int) (a0_2 : Int) (A0_3 : Option Addr) (c0_3 : Nat) (l0_3 : List (S38)) (r : Bool) (w : World) (hr0_3 : Kd.C k38 w A0_3 l0_3.length l0_3) (hc0_3 : l0_3.length ≤ c0_3) (h : laws_FnExactExprSpan.f k a0_0 a0_1 a0_2 l0_3 = some r) :
  Calls Try.prog 10 #[.agg #[.int .i64 a0_0, .int .i64 a0_1, .int .i64 a0_2, .slice A0_3 l0_3.length c0_3]] w fun e w' => e = .returned (.bool r) ∧ Below w.heap.size w w' := by
 have hu38 := Try.underlying38
 have hu31 := Try.underlying31
 have hu25 := Try.underlying25
 have HR0_3 := Aside0.mk hr0_3
 have HC0_3 := Aside0.mk hc0_3
 clear hr0_3 hc0_3
 have HB := Aside0.mk (Below.refl w.heap.size w)
 have H := h
 clear h
 unfold laws_FnExactExprSpan.f at H
 replace H := Option.bind_eq_some_iff.mp H
 obtain ⟨t444, A20, H⟩ := H
 try dsimp only at H
 have A2 := Aside0.mk A20
 clear A20
 by_cases c3 : t444 < 0
 ·rw [if_pos c3] at H
  have c3b0 : decide (t444 < 0) = true := decide_eq_true c3
  clear c3
  obtain rfl := Option.some.inj H
  go_enter Try.func10, Try.ntmps10
  go_wp2_with (first | ((with_reducible refine gate_dst (N := 1) rfl ?_); refine bE 1 #[.int .i64 a0_0, .int .i64 a0_1, .int .i64 a0_2, .slice A0_3 l0_3.length c0_3] 38 ?_; intro gb443 hg w4 hbox hb; have BK443 := Aside0.mk (hbox); have GE443 := gw hg (hz0 HB); have GW443 := GE443; replace HB := hbb (hz0 HB) hb; clear hb hbox hg; obtain ⟨hcz5_0, hcz5_1, hcz5_2, hcz5_3, hfz5_0, hfz5_1, hfz5_2, hfz5_3⟩ := cz4 BK443) | ((with_reducible refine gate_callee (f := 20) rfl ?_); refine gL 11 Try.func20 #[.agg #[.int .i64 a0_0, .int .i64 a0_1, .int .i64 a0_2, .slice A0_3 l0_3.length c0_3], .int .i64 1048576] ?_; (with_reducible refine (laws_szExpr.calls k a0_0 a0_1 a0_2 _ _ l0_3 1048576 t444 _ ?side1 ?side2 A2.out).mono ?_); (case side1 => repeat (first | exact (Kd.C_below HR0_3.out HB.out) | (with_reducible refine Kd.C_alloc ?_ _) | (with_reducible refine Kd.C_drewN ?_ _) | (with_reducible refine Kd.C_drew ?_))); (case side2 => exact HC0_3.out); rintro e w6 ⟨rfl, hb⟩; refine ⟨_, rfl, ?_⟩; replace BK443 := bb (bk BK443) hb; replace HB := hbb (hzs HB) hb; clear hb))
  go_ret
  exact ⟨by first | rfl | (simp [errW_none, errW_some] <;> rfl) | (simp [*, errW_none, errW_some] <;> rfl), hzs HB⟩
 ·rw [if_neg c3] at H
  have c3b0 : decide (t444 < 0) = false := decide_eq_false c3
  clear c3
  replace H := Option.bind_eq_some_iff.mp H
  obtain ⟨⟨t445, t446, t447, t448⟩, A70, H⟩ := H
  try dsimp only at H
  have A7 := Aside0.mk A70
  clear A70
  replace H := Option.bind_eq_some_iff.mp H
  obtain ⟨⟨t451, t452, t453⟩, A80, H⟩ := H
  try dsimp only at H
  have A8 := Aside0.mk A80
  clear A80
  replace H := Option.bind_eq_some_iff.mp H
  obtain ⟨⟨t455, t456, t457, t458⟩, A90, H⟩ := H
  try dsimp only at H
  have A9 := Aside0.mk A90
  clear A90
  replace H := Option.bind_eq_some_iff.mp H
  obtain ⟨⟨t462, t463, t464⟩, A100, H⟩ := H
  try dsimp only at H
  have A10 := Aside0.mk A100
  clear A100
  have HC11 := Aside0.mk H
  clear H
  go_enter Try.func10, Try.ntmps10
  go_upto_region 8 with (first | ((with_reducible refine gate_dst (N := 1) rfl ?_); refine bE 1 #[.int .i64 a0_0, .int .i64 a0_1, .int .i64 a0_2, .slice A0_3 l0_3.length c0_3] 38 ?_; intro gb443 hg w12 hbox hb; have BK443 := Aside0.mk (hbox); have GE443 := gw hg (hz0 HB); have GW443 := GE443; replace HB := hbb (hz0 HB) hb; clear hb hbox hg; obtain ⟨hcz13_0, hcz13_1, hcz13_2, hcz13_3, hfz13_0, hfz13_1, hfz13_2, hfz13_3⟩ := cz4 BK443) | ((with_reducible refine gate_callee (f := 20) rfl ?_); refine gL 11 Try.func20 #[.agg #[.int .i64 a0_0, .int .i64 a0_1, .int .i64 a0_2, .slice A0_3 l0_3.length c0_3], .int .i64 1048576] ?_; (with_reducible refine (laws_szExpr.calls k a0_0 a0_1 a0_2 _ _ l0_3 1048576 t444 _ ?side1 ?side2 A2.out).mono ?_); (case side1 => repeat (first | exact (Kd.C_below HR0_3.out HB.out) | (with_reducible refine Kd.C_alloc ?_ _) | (with_reducible refine Kd.C_drewN ?_ _) | (with_reducible refine Kd.C_drew ?_))); (case side2 => exact HC0_3.out); rintro e w14 ⟨rfl, hb⟩; refine ⟨_, rfl, ?_⟩; replace BK443 := bb (bk BK443) hb; replace HB := hbb (hzs HB) hb; clear hb; obtain ⟨hcz15_0, hcz15_1, hcz15_2, hcz15_3, hfz15_0, hfz15_1, hfz15_2, hfz15_3⟩ := cz4 BK443) | ((with_reducible refine gate_callee (f := 22) rfl ?_); refine gL 16 Try.func22 #[.agg #[.int .i64 a0_0, .int .i64 a0_1, .int .i64 a0_2, .slice A0_3 l0_3.length c0_3]] ?_; (with_reducible refine (laws_toExpr.calls k a0_0 a0_1 a0_2 _ _ l0_3 t445 t446 t447 t448 _ ?side1 ?side2 A7.out).mono ?_); (case side1 => repeat (first | exact (Kd.C_below HR0_3.out HB.out) | (with_reducible refine Kd.C_alloc ?_ _) | (with_reducible refine Kd.C_drewN ?_ _) | (with_reducible refine Kd.C_drew ?_))); (case side2 => exact HC0_3.out); rintro e w16 ⟨v449, rfl, ho0, hb⟩; refine ⟨_, rfl, ?_⟩; have HO450 := Aside0.mk (Kd.R_lower ho0 (below_size (hzs HB))); replace BK443 := bb (bk BK443) hb; replace HB := hbb (hzs HB) hb; (try clear hb); (try clear hb2); (try clear hk); (try clear hi); (try clear ho0); obtain ⟨Ao17, co17, eo17⟩ := Kd.R_slice HO450.out; subst eo17) | ((with_reducible refine gate_callee (f := 31) rfl ?_); refine gL 17 Try.func31 #[.agg #[.int .i64 t445, .int .i64 t446, .int .i64 t447, .slice Ao17 t448.length co17]] ?_; (with_reducible refine (spec_ExprSpan.calls k t445 t446 t447 _ _ t448 t451 t452 t453 _ ?side1 ?side2 A8.out).mono ?_); (case side1 => repeat (first | exact (Kd.R_reads' HO450.out).2.2 | (with_reducible refine Kd.C_alloc ?_ _) | (with_reducible refine Kd.C_drewN ?_ _) | (with_reducible refine Kd.C_drew ?_))); (case side2 => exact (Kd.R_reads' HO450.out).2.1); rintro e w18 ⟨rfl, hb⟩; refine ⟨_, rfl, ?_⟩; replace HO450 := Aside0.mk (Kd.R_below (by (with_reducible repeat (first | apply Kd.R_alloc | apply Kd.R_drewN | apply Kd.R_drew)); exact HO450.out) hb); replace BK443 := bb (bk BK443) hb; replace HB := hbb (hzs HB) hb; clear hb) | ((with_reducible refine gate_dst (N := 4) rfl ?_); refine bE 4 #[.int .i64 0, .int .i64 0] 31 ?_; intro gb454 hg w19 hbox hb; have BK454 := Aside0.mk (hbox); have GE454 := gw hg (hzs HB); have NB443_454 := nl hg (bk BK443); have NB454_443 := ng hg (bk BK443); replace HO450 := Aside0.mk (Kd.R_below (by (with_reducible repeat (first | apply Kd.R_alloc | apply Kd.R_drewN | apply Kd.R_drew)); exact HO450.out) hb); replace BK443 := bb (bk BK443) hb; replace HB := hbb (hzs HB) hb; clear hb hbox hg; have hnb20 := NB454_443.out; have hnc20 := NB443_454.out; obtain ⟨hcz21_0, hcz21_1, hfz21_0, hfz21_1⟩ := cz2 BK454; obtain ⟨hcz22_0, hcz22_1, hcz22_2, hcz22_3, hfz22_0, hfz22_1, hfz22_2, hfz22_3⟩ := cz4 BK443) | ((with_reducible refine gate_callee (f := 22) rfl ?_); refine gL 21 Try.func22 #[.agg #[.int .i64 a0_0, .int .i64 a0_1, .int .i64 a0_2, .slice A0_3 l0_3.length c0_3]] ?_; (with_reducible refine (laws_toExpr.calls k a0_0 a0_1 a0_2 _ _ l0_3 t455 t456 t457 t458 _ ?side1 ?side2 A9.out).mono ?_); (case side1 => exact Kd.C_below HR0_3.out (hzs HB)); (case side2 => exact HC0_3.out); rintro e w23 ⟨v459, rfl, ho0, hb⟩; refine ⟨_, rfl, ?_⟩; have HO460 := Aside0.mk (Kd.R_lower (Kd.R_new' ho0 (Kd.R_lt (by (with_reducible repeat (first | apply Kd.R_alloc | apply Kd.R_drewN | apply Kd.R_drew)); exact (Kd.R_mono (Kd.R_far (p := ⟨gb454, 1, none⟩) (Kd.R_far (p := ⟨gb454, 0, none⟩) (Kd.R_types HO450.out BK454.out (by decide)) (fun _ hk => hk.2) (.int .i64 t451)) (fun _ hk => hk.2) (.int .i64 t452)) (fun _ h_ => h_.1))))) (below_size (hzs HB))); replace HO450 := Aside0.mk (Kd.R_elder' (by (with_reducible repeat (first | apply Kd.R_alloc | apply Kd.R_drewN | apply Kd.R_drew)); exact (Kd.R_mono (Kd.R_far (p := ⟨gb454, 1, none⟩) (Kd.R_far (p := ⟨gb454, 0, none⟩) (Kd.R_types HO450.out BK454.out (by decide)) (fun _ hk => hk.2) (.int .i64 t451)) (fun _ hk => hk.2) (.int .i64 t452)) (fun _ h_ => h_.1))) (Kd.R_base ho0) hb); replace BK443 := bb (bk1 BK443 NB443_454) hb; replace BK454 := bb (o := .cells #[.int .i64 t451, .int .i64 t452] 31 (0, 0)) (bkp BK454) hb; replace HB := hbb (hzs HB) hb; (try clear hb); (try clear hb2); (try clear hk); (try clear hi); (try clear ho0)) | ((with_reducible refine gate_dst (N := 6) rfl ?_); refine bE 6 #[.int .i64 0, .int .i64 0, .int .i64 0, .slice none 0 0] 25 ?_; intro gb461 hg w24 hbox hb; have BK461 := Aside0.mk (hbox); have GE461 := gw hg (hzs HB); have NB443_461 := nl hg (bk BK443); have NB461_443 := ng hg (bk BK443); have NB454_461 := nl hg (bk BK454); have NB461_454 := ng hg (bk BK454); replace HO450 := Aside0.mk (Kd.R_below (Kd.R_elderB (by (with_reducible repeat (first | apply Kd.R_alloc | apply Kd.R_drewN | apply Kd.R_drew)); exact HO450.out) gb461 (Nat.le_of_eq hg.symm)) hb); replace HO460 := Aside0.mk (Kd.R_below (Kd.R_elderB (by (with_reducible repeat (first | apply Kd.R_alloc | apply Kd.R_drewN | apply Kd.R_drew)); exact HO460.out) gb461 (Nat.le_of_eq hg.symm)) hb); replace BK443 := bb (bk BK443) hb; replace BK454 := bb (bk BK454) hb; replace HB := hbb (hzs HB) hb; clear hb hbox hg; have hnb25 := NB461_443.out; have hnc25 := NB443_461.out; have hnb26 := NB461_454.out; have hnc26 := NB454_461.out; obtain ⟨hcz27_0, hcz27_1, hcz27_2, hcz27_3, hfz27_0, hfz27_1, hfz27_2, hfz27_3⟩ := cz4 BK461; obtain ⟨Ao28, co28, eo28⟩ := Kd.R_slice HO460.out; subst eo28) | ((with_reducible refine gate_callee (f := 18) rfl ?_); refine gL 24 Try.func18 #[.agg #[.int .i64 t455, .int .i64 t456, .int .i64 t457, .slice Ao28 t458.length co28]] ?_; (with_reducible refine (impl_ExprSpan.calls k t455 t456 t457 _ _ t458 t462 t463 t464 _ ?side1 ?side2 A10.out).mono ?_); (case side1 => refine (Kd.R_reads' (e := 25) (base := w.heap.size) (ok := fun k_ => ((True ∧ some k_ ≠ (.slice Ao17 t448.length co17 : Value).ownBlock) ∧ k_ ≠ gb461)) (n := t458.length) (c := co28) ?_).2.2; exact (by (with_reducible repeat (first | apply Kd.R_alloc | apply Kd.R_drewN | apply Kd.R_drew)); exact (Kd.R_mono (Kd.R_far (p := ⟨gb461, 3, none⟩) (Kd.R_far (p := ⟨gb461, 2, none⟩) (Kd.R_far (p := ⟨gb461, 1, none⟩) (Kd.R_far (p := ⟨gb461, 0, none⟩) (Kd.R_mono HO460.out (fun k_ hk => (⟨hk, hk.2⟩ : _ ∧ k_ ≠ gb461))) (fun _ hk => hk.2) (.int .i64 t455)) (fun _ hk => hk.2) (.int .i64 t456)) (fun _ hk => hk.2) (.int .i64 t457)) (fun _ hk => hk.2) (.slice Ao28 t458.length co28)) (fun _ h_ => h_.1)))); (case side2 => exact (Kd.R_reads' HO460.out).2.1); rintro e w29 ⟨rfl, hb⟩; refine ⟨_, rfl, ?_⟩; replace HO450 := Aside0.mk (Kd.R_below (by (with_reducible repeat (first | apply Kd.R_alloc | apply Kd.R_drewN | apply Kd.R_drew)); exact (Kd.R_mono (Kd.R_far (p := ⟨gb461, 3, none⟩) (Kd.R_far (p := ⟨gb461, 2, none⟩) (Kd.R_far (p := ⟨gb461, 1, none⟩) (Kd.R_far (p := ⟨gb461, 0, none⟩) (Kd.R_mono HO450.out (fun k_ hk => (⟨hk, hk.2⟩ : _ ∧ k_ ≠ gb461))) (fun _ hk => hk.2) (.int .i64 t455)) (fun _ hk => hk.2) (.int .i64 t456)) (fun _ hk => hk.2) (.int .i64 t457)) (fun _ hk => hk.2) (.slice Ao28 t458.length co28)) (fun _ h_ => h_.1))) hb); replace HO460 := Aside0.mk (Kd.R_below (by (with_reducible repeat (first | apply Kd.R_alloc | apply Kd.R_drewN | apply Kd.R_drew)); exact (Kd.R_mono (Kd.R_far (p := ⟨gb461, 3, none⟩) (Kd.R_far (p := ⟨gb461, 2, none⟩) (Kd.R_far (p := ⟨gb461, 1, none⟩) (Kd.R_far (p := ⟨gb461, 0, none⟩) (Kd.R_mono HO460.out (fun k_ hk => (⟨hk, hk.2⟩ : _ ∧ k_ ≠ gb461))) (fun _ hk => hk.2) (.int .i64 t455)) (fun _ hk => hk.2) (.int .i64 t456)) (fun _ hk => hk.2) (.int .i64 t457)) (fun _ hk => hk.2) (.slice Ao28 t458.length co28)) (fun _ h_ => h_.1))) hb); replace BK443 := bb (bk1 BK443 NB443_461) hb; replace BK454 := bb (bk1 BK454 NB454_461) hb; replace BK461 := Aside0.mk (blk_below (g := gb461) (o := .cells #[.int .i64 t455, .int .i64 t456, .int .i64 t457, .slice Ao28 t458.length co28] 25 (0, 0)) (by (with_reducible repeat (first | refine blk_drewN ?_ _ | refine blk_drew ?_ | refine blk_alloc ?_ _)); refine blk_put (cs := #[.int .i64 t455, .int .i64 t456, .int .i64 t457, .slice none 0 0]) ?_ 3 _ rfl; (with_reducible repeat (first | refine blk_drewN ?_ _ | refine blk_drew ?_ | refine blk_alloc ?_ _)); refine blk_put (cs := #[.int .i64 t455, .int .i64 t456, .int .i64 0, .slice none 0 0]) ?_ 2 _ rfl; (with_reducible repeat (first | refine blk_drewN ?_ _ | refine blk_drew ?_ | refine blk_alloc ?_ _)); refine blk_put (cs := #[.int .i64 t455, .int .i64 0, .int .i64 0, .slice none 0 0]) ?_ 1 _ rfl; (with_reducible repeat (first | refine blk_drewN ?_ _ | refine blk_drew ?_ | refine blk_alloc ?_ _)); refine blk_put (cs := #[.int .i64 0, .int .i64 0, .int .i64 0, .slice none 0 0]) ?_ 0 _ rfl; (with_reducible repeat (first | refine blk_drewN ?_ _ | refine blk_drew ?_ | refine blk_alloc ?_ _)); exact BK461.out) hb); replace HB := hbb (hzs HB) hb; clear hb) | ((with_reducible refine gate_dst (N := 7) rfl ?_); refine bE 7 #[.int .i64 0, .int .i64 0] 31 ?_; intro gb465 hg w30 hbox hb; have BK465 := Aside0.mk (hbox); have GE465 := gw hg (hzs HB); have NB443_465 := nl hg (bk BK443); have NB465_443 := ng hg (bk BK443); have NB454_465 := nl hg (bk BK454); have NB465_454 := ng hg (bk BK454); have NB461_465 := nl hg (bk BK461); have NB465_461 := ng hg (bk BK461); replace HO450 := Aside0.mk (Kd.R_below (by (with_reducible repeat (first | apply Kd.R_alloc | apply Kd.R_drewN | apply Kd.R_drew)); exact HO450.out) hb); replace HO460 := Aside0.mk (Kd.R_below (by (with_reducible repeat (first | apply Kd.R_alloc | apply Kd.R_drewN | apply Kd.R_drew)); exact HO460.out) hb); replace BK443 := bb (bk BK443) hb; replace BK454 := bb (bk BK454) hb; replace BK461 := bb (bk BK461) hb; replace HB := hbb (hzs HB) hb; clear hb hbox hg; have hnb31 := NB465_443.out; have hnc31 := NB443_465.out; have hnb32 := NB465_454.out; have hnc32 := NB454_465.out; have hnb33 := NB465_461.out; have hnc33 := NB461_465.out; obtain ⟨hcz34_0, hcz34_1, hfz34_0, hfz34_1⟩ := cz2 BK465))
  (try simp only [Act.put, List.setIfInBounds_toArray, List.set_cons_zero, List.set_cons_succ])
  go_cut [35] (fun v35 wc => ∃ (kq : Nat) (x35_10 : Bool), v35 = .bool x35_10 ∧ Aside0 (laws_FnExactExprSpan.j0 kq x35_10 a0_0 a0_1 a0_2 l0_3 t455 t456 t457 t458 = some r) ∧ Aside0 (kq ≤ k) ∧ Aside0 (Kd.R k25 25 wc w.heap.size (fun k_ => k_ ≠ gb461) (.slice Ao28 t458.length co28) t458) ∧ Aside0 (wc.heap[gb443]? = some (.cells #[.int .i64 a0_0, .int .i64 a0_1, .int .i64 a0_2, (.slice A0_3 l0_3.length c0_3)] 38 (0, 0))) ∧ Aside0 (wc.heap[gb454]? = some (.cells #[.int .i64 t451, .int .i64 t452] 31 (0, 0))) ∧ Aside0 (wc.heap[gb461]? = some (.cells #[.int .i64 t455, .int .i64 t456, .int .i64 t457, (.slice Ao28 t458.length co28)] 25 (0, 0))) ∧ Aside0 (wc.heap[gb465]? = some (.cells #[.int .i64 t462, .int .i64 t463] 31 (0, 0))) ∧ Aside0 (Below w.heap.size w wc))
  case first =>
   have H := HC11.out
   clear HC11
   replace H := Option.bind_eq_some_iff.mp H
   obtain ⟨t466, A350, H⟩ := H
   try dsimp only at H
   have A35 := Aside0.mk A350
   clear A350
   by_cases c36 : t466 = true
   ·subst c36
    rw [if_pos rfl] at H
    have H' := Aside0.mk H
    clear H
    have hnb37 := NB465_443.out
    have hnc37 := NB443_465.out
    have hnb38 := NB465_454.out
    have hnc38 := NB454_465.out
    have hnb39 := NB465_461.out
    have hnc39 := NB461_465.out
    obtain ⟨hcz40_0, hcz40_1, hfz40_0, hfz40_1⟩ := cz2 BK465
    have hnb41 := NB454_443.out
    have hnc41 := NB443_454.out
    have hnb42 := NB454_461.out
    have hnc42 := NB461_454.out
    obtain ⟨hcz43_0, hcz43_1, hfz43_0, hfz43_1⟩ := cz2 BK454
    go_wp2_with (first | ((with_reducible refine gate_callee (f := 32) rfl ?_); refine gL 29 Try.func32 #[.agg #[.int .i64 t462, .int .i64 t463], .agg #[.int .i64 t451, .int .i64 t452]] ?_; (with_reducible refine (laws_eqSpan.calls t462 t463 t451 t452 true _ A35.out).mono ?_); rintro e w44 ⟨rfl, hb⟩; refine ⟨_, rfl, ?_⟩; replace HO450 := Aside0.mk (Kd.R_below (by (with_reducible repeat (first | apply Kd.R_alloc | apply Kd.R_drewN | apply Kd.R_drew)); exact (Kd.R_mono (Kd.R_far (p := ⟨gb465, 1, none⟩) (Kd.R_far (p := ⟨gb465, 0, none⟩) (Kd.R_types HO450.out BK465.out (by decide)) (fun _ hk => hk.2) (.int .i64 t462)) (fun _ hk => hk.2) (.int .i64 t463)) (fun _ h_ => h_.1))) hb); replace HO460 := Aside0.mk (Kd.R_below (by (with_reducible repeat (first | apply Kd.R_alloc | apply Kd.R_drewN | apply Kd.R_drew)); exact (Kd.R_mono (Kd.R_far (p := ⟨gb465, 1, none⟩) (Kd.R_far (p := ⟨gb465, 0, none⟩) (Kd.R_types HO460.out BK465.out (by decide)) (fun _ hk => hk.2) (.int .i64 t462)) (fun _ hk => hk.2) (.int .i64 t463)) (fun _ h_ => h_.1))) hb); replace BK443 := bb (bk1 BK443 NB443_465) hb; replace BK454 := bb (bk1 BK454 NB454_465) hb; replace BK461 := bb (bk1 BK461 NB461_465) hb; replace BK465 := bb (o := .cells #[.int .i64 t462, .int .i64 t463] 31 (0, 0)) (bkp BK465) hb; replace HB := hbb (hzs HB) hb; clear hb))
    go_meet
    case rel => exact ⟨_, ((t464 != t453)), (by first | rfl | (simp; done) | (simp [*]; done)), H', ⟨by first | omega | exact Nat.le_refl _⟩, ⟨by (with_reducible repeat (first | apply Kd.R_alloc | apply Kd.R_drewN | apply Kd.R_drew)); exact Kd.R_mono HO460.out (fun _ hk => hk.2)⟩, ⟨bk BK443⟩, ⟨bk BK454⟩, ⟨bk BK461⟩, ⟨bk BK465⟩, ⟨hzs HB⟩⟩
   ·replace c36 := Bool.eq_false_iff.mpr c36
    subst c36
    rw [if_neg (show ¬ (false = true) by decide)] at H
    have H' := Aside0.mk H
    clear H
    have hnb45 := NB465_443.out
    have hnc45 := NB443_465.out
    have hnb46 := NB465_454.out
    have hnc46 := NB454_465.out
    have hnb47 := NB465_461.out
    have hnc47 := NB461_465.out
    obtain ⟨hcz48_0, hcz48_1, hfz48_0, hfz48_1⟩ := cz2 BK465
    have hnb49 := NB454_443.out
    have hnc49 := NB443_454.out
    have hnb50 := NB454_461.out
    have hnc50 := NB461_454.out
    obtain ⟨hcz51_0, hcz51_1, hfz51_0, hfz51_1⟩ := cz2 BK454
    go_wp2_with (first | ((with_reducible refine gate_callee (f := 32) rfl ?_); refine gL 29 Try.func32 #[.agg #[.int .i64 t462, .int .i64 t463], .agg #[.int .i64 t451, .int .i64 t452]] ?_; (with_reducible refine (laws_eqSpan.calls t462 t463 t451 t452 false _ A35.out).mono ?_); rintro e w52 ⟨rfl, hb⟩; refine ⟨_, rfl, ?_⟩; replace HO450 := Aside0.mk (Kd.R_below (by (with_reducible repeat (first | apply Kd.R_alloc | apply Kd.R_drewN | apply Kd.R_drew)); exact (Kd.R_mono (Kd.R_far (p := ⟨gb465, 1, none⟩) (Kd.R_far (p := ⟨gb465, 0, none⟩) (Kd.R_types HO450.out BK465.out (by decide)) (fun _ hk => hk.2) (.int .i64 t462)) (fun _ hk => hk.2) (.int .i64 t463)) (fun _ h_ => h_.1))) hb); replace HO460 := Aside0.mk (Kd.R_below (by (with_reducible repeat (first | apply Kd.R_alloc | apply Kd.R_drewN | apply Kd.R_drew)); exact (Kd.R_mono (Kd.R_far (p := ⟨gb465, 1, none⟩) (Kd.R_far (p := ⟨gb465, 0, none⟩) (Kd.R_types HO460.out BK465.out (by decide)) (fun _ hk => hk.2) (.int .i64 t462)) (fun _ hk => hk.2) (.int .i64 t463)) (fun _ h_ => h_.1))) hb); replace BK443 := bb (bk1 BK443 NB443_465) hb; replace BK454 := bb (bk1 BK454 NB454_465) hb; replace BK461 := bb (bk1 BK461 NB461_465) hb; replace BK465 := bb (o := .cells #[.int .i64 t462, .int .i64 t463] 31 (0, 0)) (bkp BK465) hb; replace HB := hbb (hzs HB) hb; clear hb))
    go_meet
    case rel => exact ⟨_, (true), (by first | rfl | (simp; done) | (simp [*]; done)), H', ⟨by first | omega | exact Nat.le_refl _⟩, ⟨by (with_reducible repeat (first | apply Kd.R_alloc | apply Kd.R_drewN | apply Kd.R_drew)); exact Kd.R_mono HO460.out (fun _ hk => hk.2)⟩, ⟨bk BK443⟩, ⟨bk BK454⟩, ⟨bk BK461⟩, ⟨bk BK465⟩, ⟨hzs HB⟩⟩
  case rest =>
   clear HC11
   try clear c1
   try clear c2
   try clear p2
   try clear c3
   try clear c3b0
   try clear c4
   try clear c5
   try clear c10
   try clear c18
   try clear c20
   try clear c22
   try clear c25
   try clear c26
   try clear c31
   try clear c32
   try clear c33
   try clear c36
   try clear c37
   try clear c38
   try clear c39
   try clear c41
   try clear c42
   try clear c45
   try clear c46
   try clear c47
   try clear c49
   try clear c50
   try clear hcz13_0 hcz13_1 hcz13_2 hcz13_3
   try clear hcz15_0 hcz15_1 hcz15_2 hcz15_3
   try clear hcz21_0 hcz21_1
   try clear hcz22_0 hcz22_1 hcz22_2 hcz22_3
   try clear hcz27_0 hcz27_1 hcz27_2 hcz27_3
   try clear hcz34_0 hcz34_1
   try clear hcz40_0 hcz40_1
   try clear hcz43_0 hcz43_1
   try clear hcz48_0 hcz48_1
   try clear hcz51_0 hcz51_1
   try clear hcz5_0 hcz5_1 hcz5_2 hcz5_3
   try clear hfz13_0 hfz13_1 hfz13_2 hfz13_3
   try clear hfz15_0 hfz15_1 hfz15_2 hfz15_3
   try clear hfz21_0 hfz21_1
   try clear hfz22_0 hfz22_1 hfz22_2 hfz22_3
   try clear hfz27_0 hfz27_1 hfz27_2 hfz27_3
   try clear hfz34_0 hfz34_1
   try clear hfz40_0 hfz40_1
   try clear hfz43_0 hfz43_1
   try clear hfz48_0 hfz48_1
   try clear hfz51_0 hfz51_1
   try clear hfz5_0 hfz5_1 hfz5_2 hfz5_3
   obtain ⟨kq, x35_10, rfl, HA, HJ10, HO_462003, BK443, BK454, BK461, BK465, HB⟩ := hcut
   cases kq with
   | zero => exact absurd HA.out (by simp [laws_FnExactExprSpan.j0])
   | succ kj10 =>
    have H := HA.out
    clear HA
    simp only [laws_FnExactExprSpan.j0] at H
    by_cases c53 : x35_10 = true
    ·subst c53
     rw [if_pos rfl] at H
     obtain rfl := Option.some.inj H
     go_wp2
     go_ret
     exact ⟨by first | rfl | (simp [errW_none, errW_some] <;> rfl) | (simp [*, errW_none, errW_some] <;> rfl), hzs HB⟩
    ·replace c53 := Bool.eq_false_iff.mpr c53
     subst c53
     rw [if_neg (show ¬ (false = true) by decide)] at H
     replace H := Option.bind_eq_some_iff.mp H
     obtain ⟨⟨t467, t468, t469, t470⟩, A540, H⟩ := H
     try dsimp only at H
     have A54 := Aside0.mk A540
     clear A540
     replace H := Option.bind_eq_some_iff.mp H
     obtain ⟨t473, A550, H⟩ := H
     try dsimp only at H
     have A55 := Aside0.mk A550
     clear A550
     by_cases c56 : t473 = true
     ·subst c56
      rw [if_pos rfl] at H
      obtain rfl := Option.some.inj H
      try go_wp2
      replace HO_462003 := Aside0.mk (Kd.R_drew HO_462003.out)
      replace BK443 := Aside0.mk (blk_drew BK443.out)
      replace BK454 := Aside0.mk (blk_drew BK454.out)
      replace BK461 := Aside0.mk (blk_drew BK461.out)
      replace BK465 := Aside0.mk (blk_drew BK465.out)
      replace HB := Aside0.mk (below_drew1 HB.out)
      refine start_ (n := 5) (S := fun w' => w'.cell? ⟨gb461, 0, none⟩ = some (.int .i64 t455) ∧ w'.cell? ⟨gb461, 1, none⟩ = some (.int .i64 t456) ∧ w'.cell? ⟨gb461, 2, none⟩ = some (.int .i64 t457) ∧ w'.cell? ⟨gb461, 3, none⟩ = some (.slice Ao28 t458.length co28) ∧ w'.cell? ⟨gb443, 0, none⟩ = some (.int .i64 a0_0) ∧ w'.cell? ⟨gb443, 1, none⟩ = some (.int .i64 a0_1) ∧ w'.cell? ⟨gb443, 2, none⟩ = some (.int .i64 a0_2) ∧ w'.cell? ⟨gb443, 3, none⟩ = some (.slice A0_3 l0_3.length c0_3)) (ds := []) #[false, false, false, false, false] (by kernel_rfl) rfl rfl ⟨cw0 BK461, cw1 BK461, (blk_cell BK461.out 2).trans rfl, (blk_cell BK461.out 3).trans rfl, cw0 BK443, cw1 BK443, (blk_cell BK443.out 2).trans rfl, (blk_cell BK443.out 3).trans rfl⟩ (fun hHeld => ?_)
      generalize wc.drew = w57 at HO_462003 BK443 BK454 BK461 BK465 HB hHeld ⊢
      refine take_ (i := 0) (N := some 36) (v := ?_) (a' := ?_) #[true, false, false, false, false] rfl rfl (by kernel_rfl) (fun _ _ _ h => h) (Or.inl ⟨by rfl, ?_⟩) hHeld ?_ ?_
      rotate_left
      ·rintro w' ⟨s0, s1, s2, s3, s4, s5, s6, s7⟩
       go_simp
       with_reducible rfl
      rotate_left
      ·simp only [Act.put, List.setIfInBounds_toArray, List.set_cons_zero, List.set_cons_succ, i64_w, i32_w]
       rfl
      refine take_ (i := 1) (N := some 37) (v := ?_) (a' := ?_) #[true, true, false, false, false] rfl rfl (by kernel_rfl) (fun _ _ _ h => h) (Or.inl ⟨by rfl, ?_⟩) hHeld ?_ ?_
      rotate_left
      ·rintro w' ⟨s0, s1, s2, s3, s4, s5, s6, s7⟩
       go_simp
       with_reducible rfl
      rotate_left
      ·simp only [Act.put, List.setIfInBounds_toArray, List.set_cons_zero, List.set_cons_succ, i64_w, i32_w]
       rfl
      refine one_ (i := 2) (N := some 38) #[true, true, true, false, false] rfl rfl (by kernel_rfl) (by decide) (fun K hK => ?_)
      refine gS Try.func22 #[.agg #[.int .i64 a0_0, .int .i64 a0_1, .int .i64 a0_2, .slice A0_3 l0_3.length c0_3]] ?_
      with_reducible refine (laws_toExpr.calls kj10 a0_0 a0_1 a0_2 _ _ l0_3 t467 t468 t469 t470 _ ?side1 ?side2 A54.out).mono ?_
      (case side1 => repeat (first | exact (Kd.C_below HR0_3.out HB.out) | (with_reducible refine Kd.C_alloc ?_ _) | (with_reducible refine Kd.C_drewN ?_ _) | (with_reducible refine Kd.C_drew ?_)))
      (case side2 => exact HC0_3.out)
      rintro e w58 ⟨v471, rfl, ho0, hb⟩
      refine ⟨_, rfl, ?_⟩
      have HO472 := Aside0.mk (Kd.R_lower (Kd.R_newB (Kd.R_new' ho0 (Kd.R_lt (by (with_reducible repeat (first | apply Kd.R_alloc | apply Kd.R_drewN | apply Kd.R_drew)); exact HO_462003.out))) (g := gb461) (o := .cells #[.int .i64 t455, .int .i64 t456, .int .i64 t457, .slice Ao28 t458.length co28] 25 (0, 0)) (bk BK461)) (below_size (hzs HB)))
      replace HO_462003 := Aside0.mk (Kd.R_elder' (by (with_reducible repeat (first | apply Kd.R_alloc | apply Kd.R_drewN | apply Kd.R_drew)); exact HO_462003.out) (Kd.R_base ho0) hb)
      replace BK443 := bb (bk BK443) hb
      replace BK454 := bb (bk BK454) hb
      replace BK461 := bb (bk BK461) hb
      replace BK465 := bb (bk BK465) hb
      replace HB := hbb (hzs HB) hb
      (try clear hb)
      (try clear hb2)
      (try clear hk)
      (try clear hi)
      (try clear ho0)
      obtain ⟨Ao59, co59, eo59⟩ := Kd.R_slice HO472.out
      (first | subst eo59 | (injection eo59 with f1_ f2_ f3_; have f4_ := f1_.symm; have f5_ := f3_.symm; clear f1_ f2_ f3_; subst f4_; subst f5_))
      refine hK.out _ _ ⟨cw0 BK461, cw1 BK461, (blk_cell BK461.out 2).trans rfl, (blk_cell BK461.out 3).trans rfl, cw0 BK443, cw1 BK443, (blk_cell BK443.out 2).trans rfl, (blk_cell BK443.out 3).trans rfl⟩ (fun hHeld => ?_)
      clear hK K
      refine nP ?_
      refine one_ (i := 3) (N := some 39) #[true, true, true, true, false] rfl rfl (by kernel_rfl) (by decide) (fun K hK => ?_)
      refine gS Try.func24 #[.agg #[.int .i64 t455, .int .i64 t456, .int .i64 t457, .slice Ao28 t458.length co28], .agg #[.int .i64 t467, .int .i64 t468, .int .i64 t469, .slice Ao59 t470.length co59]] ?_
      with_reducible refine (laws_eqExpr.calls kj10 t455 t456 t457 _ _ t458 t467 t468 t469 _ _ t470 true _ ?side1 ?side2 ?side3 ?side4 A55.out).mono ?_
      (case side1 => repeat (first | exact (Kd.R_reads' HO_462003.out).2.2 | (with_reducible refine Kd.C_alloc ?_ _) | (with_reducible refine Kd.C_drewN ?_ _) | (with_reducible refine Kd.C_drew ?_)))
      (case side2 => exact (Kd.R_reads' HO_462003.out).2.1)
      (case side3 => repeat (first | exact (Kd.R_reads' HO472.out).2.2 | (with_reducible refine Kd.C_alloc ?_ _) | (with_reducible refine Kd.C_drewN ?_ _) | (with_reducible refine Kd.C_drew ?_)))
      (case side4 => exact (Kd.R_reads' HO472.out).2.1)
      rintro e w60 ⟨rfl, hb⟩
      refine ⟨_, rfl, ?_⟩
      replace HO_462003 := Aside0.mk (Kd.R_below (by (with_reducible repeat (first | apply Kd.R_alloc | apply Kd.R_drewN | apply Kd.R_drew)); exact HO_462003.out) hb)
      replace HO472 := Aside0.mk (Kd.R_below (by (with_reducible repeat (first | apply Kd.R_alloc | apply Kd.R_drewN | apply Kd.R_drew)); exact HO472.out) hb)
      replace BK443 := bb (bk BK443) hb
      replace BK454 := bb (bk BK454) hb
      replace BK461 := bb (bk BK461) hb
      replace BK465 := bb (bk BK465) hb
      replace HB := hbb (hzs HB) hb
      clear hb
      refine hK.out _ _ ⟨cw0 BK461, cw1 BK461, (blk_cell BK461.out 2).trans rfl, (blk_cell BK461.out 3).trans rfl, cw0 BK443, cw1 BK443, (blk_cell BK443.out 2).trans rfl, (blk_cell BK443.out 3).trans rfl⟩ (fun hHeld => ?_)
      clear hK K
      refine nP ?_
      refine pure_ (i := 4) (N := some 40) (v := ?_) (a' := ?_) #[true, true, true, true, true] rfl rfl (by kernel_rfl) (fun _ _ _ h => h) (Or.inl ⟨by rfl, ?_⟩) ?_ ?_
      rotate_left
      ·intro w'
       go_simp
       with_reducible rfl
      rotate_left
      ·simp only [Act.put, List.setIfInBounds_toArray, List.set_cons_zero, List.set_cons_succ, i64_w, i32_w]
       rfl
      refine done_ (by kernel_rfl) ?_
      try go_wp2
      go_ret
      exact ⟨by first | rfl | (simp [errW_none, errW_some] <;> rfl) | (simp [*, errW_none, errW_some] <;> rfl), hzs HB⟩
     ·replace c56 := Bool.eq_false_iff.mpr c56
      subst c56
      rw [if_neg (show ¬ (false = true) by decide)] at H
      obtain rfl := Option.some.inj H
      try go_wp2
      replace HO_462003 := Aside0.mk (Kd.R_drew HO_462003.out)
      replace BK443 := Aside0.mk (blk_drew BK443.out)
      replace BK454 := Aside0.mk (blk_drew BK454.out)
      replace BK461 := Aside0.mk (blk_drew BK461.out)
      replace BK465 := Aside0.mk (blk_drew BK465.out)
      replace HB := Aside0.mk (below_drew1 HB.out)
      refine start_ (n := 5) (S := fun w' => w'.cell? ⟨gb461, 0, none⟩ = some (.int .i64 t455) ∧ w'.cell? ⟨gb461, 1, none⟩ = some (.int .i64 t456) ∧ w'.cell? ⟨gb461, 2, none⟩ = some (.int .i64 t457) ∧ w'.cell? ⟨gb461, 3, none⟩ = some (.slice Ao28 t458.length co28) ∧ w'.cell? ⟨gb443, 0, none⟩ = some (.int .i64 a0_0) ∧ w'.cell? ⟨gb443, 1, none⟩ = some (.int .i64 a0_1) ∧ w'.cell? ⟨gb443, 2, none⟩ = some (.int .i64 a0_2) ∧ w'.cell? ⟨gb443, 3, none⟩ = some (.slice A0_3 l0_3.length c0_3)) (ds := []) #[false, false, false, false, false] (by kernel_rfl) rfl rfl ⟨cw0 BK461, cw1 BK461, (blk_cell BK461.out 2).trans rfl, (blk_cell BK461.out 3).trans rfl, cw0 BK443, cw1 BK443, (blk_cell BK443.out 2).trans rfl, (blk_cell BK443.out 3).trans rfl⟩ (fun hHeld => ?_)
      generalize wc.drew = w61 at HO_462003 BK443 BK454 BK461 BK465 HB hHeld ⊢
      refine take_ (i := 0) (N := some 36) (v := ?_) (a' := ?_) #[true, false, false, false, false] rfl rfl (by kernel_rfl) (fun _ _ _ h => h) (Or.inl ⟨by rfl, ?_⟩) hHeld ?_ ?_
      rotate_left
      ·rintro w' ⟨s0, s1, s2, s3, s4, s5, s6, s7⟩
       go_simp
       with_reducible rfl
      rotate_left
      ·simp only [Act.put, List.setIfInBounds_toArray, List.set_cons_zero, List.set_cons_succ, i64_w, i32_w]
       rfl
      refine take_ (i := 1) (N := some 37) (v := ?_) (a' := ?_) #[true, true, false, false, false] rfl rfl (by kernel_rfl) (fun _ _ _ h => h) (Or.inl ⟨by rfl, ?_⟩) hHeld ?_ ?_
      rotate_left
      ·rintro w' ⟨s0, s1, s2, s3, s4, s5, s6, s7⟩
       go_simp
       with_reducible rfl
      rotate_left
      ·simp only [Act.put, List.setIfInBounds_toArray, List.set_cons_zero, List.set_cons_succ, i64_w, i32_w]
       rfl
      refine one_ (i := 2) (N := some 38) #[true, true, true, false, false] rfl rfl (by kernel_rfl) (by decide) (fun K hK => ?_)
      refine gS Try.func22 #[.agg #[.int .i64 a0_0, .int .i64 a0_1, .int .i64 a0_2, .slice A0_3 l0_3.length c0_3]] ?_
      with_reducible refine (laws_toExpr.calls kj10 a0_0 a0_1 a0_2 _ _ l0_3 t467 t468 t469 t470 _ ?side1 ?side2 A54.out).mono ?_
      (case side1 => repeat (first | exact (Kd.C_below HR0_3.out HB.out) | (with_reducible refine Kd.C_alloc ?_ _) | (with_reducible refine Kd.C_drewN ?_ _) | (with_reducible refine Kd.C_drew ?_)))
      (case side2 => exact HC0_3.out)
      rintro e w62 ⟨v471, rfl, ho0, hb⟩
      refine ⟨_, rfl, ?_⟩
      have HO472 := Aside0.mk (Kd.R_lower (Kd.R_newB (Kd.R_new' ho0 (Kd.R_lt (by (with_reducible repeat (first | apply Kd.R_alloc | apply Kd.R_drewN | apply Kd.R_drew)); exact HO_462003.out))) (g := gb461) (o := .cells #[.int .i64 t455, .int .i64 t456, .int .i64 t457, .slice Ao28 t458.length co28] 25 (0, 0)) (bk BK461)) (below_size (hzs HB)))
      replace HO_462003 := Aside0.mk (Kd.R_elder' (by (with_reducible repeat (first | apply Kd.R_alloc | apply Kd.R_drewN | apply Kd.R_drew)); exact HO_462003.out) (Kd.R_base ho0) hb)
      replace BK443 := bb (bk BK443) hb
      replace BK454 := bb (bk BK454) hb
      replace BK461 := bb (bk BK461) hb
      replace BK465 := bb (bk BK465) hb
      replace HB := hbb (hzs HB) hb
      (try clear hb)
      (try clear hb2)
      (try clear hk)
      (try clear hi)
      (try clear ho0)
      obtain ⟨Ao63, co63, eo63⟩ := Kd.R_slice HO472.out
      (first | subst eo63 | (injection eo63 with f1_ f2_ f3_; have f4_ := f1_.symm; have f5_ := f3_.symm; clear f1_ f2_ f3_; subst f4_; subst f5_))
      refine hK.out _ _ ⟨cw0 BK461, cw1 BK461, (blk_cell BK461.out 2).trans rfl, (blk_cell BK461.out 3).trans rfl, cw0 BK443, cw1 BK443, (blk_cell BK443.out 2).trans rfl, (blk_cell BK443.out 3).trans rfl⟩ (fun hHeld => ?_)
      clear hK K
      refine nP ?_
      refine one_ (i := 3) (N := some 39) #[true, true, true, true, false] rfl rfl (by kernel_rfl) (by decide) (fun K hK => ?_)
      refine gS Try.func24 #[.agg #[.int .i64 t455, .int .i64 t456, .int .i64 t457, .slice Ao28 t458.length co28], .agg #[.int .i64 t467, .int .i64 t468, .int .i64 t469, .slice Ao63 t470.length co63]] ?_
      with_reducible refine (laws_eqExpr.calls kj10 t455 t456 t457 _ _ t458 t467 t468 t469 _ _ t470 false _ ?side1 ?side2 ?side3 ?side4 A55.out).mono ?_
      (case side1 => repeat (first | exact (Kd.R_reads' HO_462003.out).2.2 | (with_reducible refine Kd.C_alloc ?_ _) | (with_reducible refine Kd.C_drewN ?_ _) | (with_reducible refine Kd.C_drew ?_)))
      (case side2 => exact (Kd.R_reads' HO_462003.out).2.1)
      (case side3 => repeat (first | exact (Kd.R_reads' HO472.out).2.2 | (with_reducible refine Kd.C_alloc ?_ _) | (with_reducible refine Kd.C_drewN ?_ _) | (with_reducible refine Kd.C_drew ?_)))
      (case side4 => exact (Kd.R_reads' HO472.out).2.1)
      rintro e w64 ⟨rfl, hb⟩
      refine ⟨_, rfl, ?_⟩
      replace HO_462003 := Aside0.mk (Kd.R_below (by (with_reducible repeat (first | apply Kd.R_alloc | apply Kd.R_drewN | apply Kd.R_drew)); exact HO_462003.out) hb)
      replace HO472 := Aside0.mk (Kd.R_below (by (with_reducible repeat (first | apply Kd.R_alloc | apply Kd.R_drewN | apply Kd.R_drew)); exact HO472.out) hb)
      replace BK443 := bb (bk BK443) hb
      replace BK454 := bb (bk BK454) hb
      replace BK461 := bb (bk BK461) hb
      replace BK465 := bb (bk BK465) hb
      replace HB := hbb (hzs HB) hb
      clear hb
      refine hK.out _ _ ⟨cw0 BK461, cw1 BK461, (blk_cell BK461.out 2).trans rfl, (blk_cell BK461.out 3).trans rfl, cw0 BK443, cw1 BK443, (blk_cell BK443.out 2).trans rfl, (blk_cell BK443.out 3).trans rfl⟩ (fun hHeld => ?_)
      clear hK K
      refine nP ?_
      refine pure_ (i := 4) (N := some 40) (v := ?_) (a' := ?_) #[true, true, true, true, true] rfl rfl (by kernel_rfl) (fun _ _ _ h => h) (Or.inl ⟨by rfl, ?_⟩) ?_ ?_
      rotate_left
      ·intro w'
       go_simp
       with_reducible rfl
      rotate_left
      ·simp only [Act.put, List.setIfInBounds_toArray, List.set_cons_zero, List.set_cons_succ, i64_w, i32_w]
       rfl
      refine done_ (by kernel_rfl) ?_
      try go_wp2
      go_ret
      exact ⟨by first | rfl | (simp [errW_none, errW_some] <;> rfl) | (simp [*, errW_none, errW_some] <;> rfl), hzs HB⟩


theorem eqSpan_self (a b : Int) : laws_eqSpan.f a b a b = some true := by
 unfold laws_eqSpan.f
 simp
theorem FnExactExprSpan_pure {l : List S38} (h1 : l.length ≤ 9223372036854775807) (h2 : fit8L l) (f0 f1 f2 : Int) : laws_FnExactExprSpan.f (40 * nodes8L l + 6000) f0 f1 f2 l = some true := by
 unfold laws_FnExactExprSpan.f
 by_cases c : (nodes8L l : Int) ≤ 1048576
 ·obtain ⟨⟨t, e1, e2⟩, e3, e4, e5⟩ := exact_near h1 h2 c f0 f1 f2 (k := 40 * nodes8L l + 6000) (by omega)
  have s := ExprSpan_is (e := ⟨f0, f1, f2, to8L l⟩) (by omega) (k := 40 * nodes8L l + 6000) (by omega)
  dsimp only at s
  rw [e1]
  simp only [Option.bind_some]
  rw [if_neg e2, e3]
  simp only [Option.bind_some]
  rw [s.1, s.2]
  obtain ⟨k, hk⟩ : ∃ q, 40 * nodes8L l + 6000 = q + 1 := ⟨40 * nodes8L l + 5999, by omega⟩
  obtain ⟨-, d3, d4, -⟩ := exact_near h1 h2 c f0 f1 f2 (k := k) (by omega)
  rw [hk]
  have j : laws_FnExactExprSpan.j0 (k + 1) false f0 f1 f2 l f0 f1 f2 (to8L l) = some true := by
   rw [laws_FnExactExprSpan.j0, if_neg (show ¬ (false = true) by decide), d3]
   simp only [Option.bind_some]
   rw [d4]
   rfl
  simp only [Option.bind_some, bne_self_eq_false, if_true, j, eqSpan_self]
 ·rw [exact_far h1 h2 c f0 f1 f2 (by omega)]
  rfl
theorem FnExactExprSpan_true (f0 f1 f2 : Int) (A : Option Addr) (c : Nat) (l : List S38) (w : World) (hr : Kd.C k38 w A l.length l) (hc : l.length ≤ c) :
  Calls Try.prog 10 #[.agg #[.int .i64 f0, .int .i64 f1, .int .i64 f2, .slice A l.length c]] w fun e w' => e = .returned (.bool true) ∧ Below w.heap.size w w' :=
 laws_FnExactExprSpan.calls _ f0 f1 f2 A c l true w hr hc (FnExactExprSpan_pure (fit_read _ l (Nat.le_refl _) w A hr).1 (fit_read _ l (Nat.le_refl _) w A hr).2 f0 f1 f2)

end Go.Proofs.Ytlodpfddimeffaa.M
