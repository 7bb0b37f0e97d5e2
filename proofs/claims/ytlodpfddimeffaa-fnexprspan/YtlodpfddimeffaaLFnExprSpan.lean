import Derived.Test.YtlodpfddimeffaaP6
import Derived.Test.YtlodpfddimeffaaP8
import Derived.Test.YtlodpfddimeffaaDe
namespace Go.Proofs.Ytlodpfddimeffaa.M
open Go.RowKit Go.Proofs.YtlodpfddimeffaaW.PrintWords Go.Proofs.YtlodpfddimeffaaW.PrintLast Go.Proofs.YtlodpfddimeffaaW.PrintMore
attribute [local go_sem] max2_int min2_int max_two min_two max_three min_three max_four min_four
attribute [local go_sem high] eqA31
attribute [local go_sem] fld31_0 fld31_1 fld25_0 fld25_1 fld25_2 fld25_3
set_option linter.unusedVariables false
set_option linter.unusedSimpArgs false
/-! ### laws_FnExprSpan: function 12 -/
mutual
def laws_FnExprSpan.j0 : Nat → Bool → Bool → Bool → Int → Int → Int → List (S25) → Int → Int → Int → Int → Option (Bool)
 | 0, _, _, _, _, _, _, _, _, _, _, _ => none
 | k + 1, x5, x7, x37, x537000, x537001, x537002, x537003, x541000, x541001, x545000, x545001 => if x37 = true then (if (x7 == x5) = true then (some (x545000 == x541000 && (x545001 == x541001))) else (some false)) else (laws_FnExprSpan.l0 k 0 x537000 x537001 x537002 x537003 x545000 x545001)
def laws_FnExprSpan.l0 : Nat → Int → Int → Int → Int → List (S25) → Int → Int → Option (Bool)
 | 0, _, _, _, _, _, _, _ => none
 | k + 1, x8, x537000, x537001, x537002, x537003, x545000, x545001 => if x8 < (x537003.length : Int) then (if 0 ≤ x8 then ((impl_ExprSpan.f k ((rd_T25 x537003 x8).f0) ((rd_T25 x537003 x8).f1) ((rd_T25 x537003 x8).f2) ((rd_T25 x537003 x8).f3)).bind fun bt546 => (if bt546.2.2 = true then (laws_FnExprSpan.l0 k (wrap64 (x8 + 1)) x537000 x537001 x537002 x537003 x545000 x545001) else (some false))) else (none)) else ((impl_SpanOk.f x545000 x545001).bind fun t550 => (some t550))
end
def laws_FnExprSpan.f (k : Nat) (l0 : List Int) : Option (Bool) := if (l0.length : Int) > 1048576 then (some true) else ((spec_DrawExprSpan.f k l0).bind fun bt530 => ((spec_ExprSpan.f k bt530.1 bt530.2.1 bt530.2.2.1 bt530.2.2.2).bind fun bt537 => ((impl_ExprSpan.f k bt530.1 bt530.2.1 bt530.2.2.1 bt530.2.2.2).bind fun bt541 => (if (bt541.2.2 != bt537.2.2) = true then (laws_FnExprSpan.j0 k bt537.2.2 bt541.2.2 true bt530.1 bt530.2.1 bt530.2.2.1 bt530.2.2.2 bt537.1 bt537.2.1 bt541.1 bt541.2.1) else (if (!(bt541.1 == bt537.1) || (!(bt541.2.1 == bt537.2.1))) = true then (laws_FnExprSpan.j0 k bt537.2.2 bt541.2.2 true bt530.1 bt530.2.1 bt530.2.2.1 bt530.2.2.2 bt537.1 bt537.2.1 bt541.1 bt541.2.1) else (laws_FnExprSpan.j0 k bt537.2.2 bt541.2.2 (!bt541.2.2) bt530.1 bt530.2.1 bt530.2.2.1 bt530.2.2.2 bt537.1 bt537.2.1 bt541.1 bt541.2.1))))))
set_option maxHeartbeats 8000000 in
set_option maxRecDepth 100000 in
theorem laws_FnExprSpan.calls (k : Nat) (A0 : Option Addr) (c0 : Nat) (l0 : List Int) (r : Bool) (w : World) (hr0 : Kd.C (Kd.int .u8) w A0 l0.length l0) (hc0 : l0.length ≤ c0) (h : laws_FnExprSpan.f k l0 = some r) :
  Calls Try.prog 12 #[.slice A0 l0.length c0] w fun e w' => e = .returned (.bool r) ∧ Below w.heap.size w w' := by
 have hu25 := Try.underlying25
 have hu31 := Try.underlying31
 have HR0 := Aside0.mk hr0
 have HC0 := Aside0.mk hc0
 clear hr0 hc0
 have HB := Aside0.mk (Below.refl w.heap.size w)
 have H : (if (l0.length : Int) > 1048576 then (some true) else ((spec_DrawExprSpan.f k l0).bind fun bt530 => ((spec_ExprSpan.f k bt530.1 bt530.2.1 bt530.2.2.1 bt530.2.2.2).bind fun bt537 => ((impl_ExprSpan.f k bt530.1 bt530.2.1 bt530.2.2.1 bt530.2.2.2).bind fun bt541 => (if (bt541.2.2 != bt537.2.2) = true then (laws_FnExprSpan.j0 k bt537.2.2 bt541.2.2 true bt530.1 bt530.2.1 bt530.2.2.1 bt530.2.2.2 bt537.1 bt537.2.1 bt541.1 bt541.2.1) else (if (!(bt541.1 == bt537.1) || (!(bt541.2.1 == bt537.2.1))) = true then (laws_FnExprSpan.j0 k bt537.2.2 bt541.2.2 true bt530.1 bt530.2.1 bt530.2.2.1 bt530.2.2.2 bt537.1 bt537.2.1 bt541.1 bt541.2.1) else (laws_FnExprSpan.j0 k bt537.2.2 bt541.2.2 (!bt541.2.2) bt530.1 bt530.2.1 bt530.2.2.1 bt530.2.2.2 bt537.1 bt537.2.1 bt541.1 bt541.2.1))))))) = some r := h
 clear h
 by_cases c2 : (l0.length : Int) > 1048576
 ·rw [if_pos c2] at H
  have c2b0 : decide (1048576 < (l0.length : Int)) = true := decide_eq_true c2
  have c2b1 : decide (1048576 < l0.length) = true := decide_eq_true (by omega)
  clear c2
  obtain rfl := Option.some.inj H
  go_enter Try.func12, Try.ntmps12
  go_wp2
  go_ret
  exact ⟨by first | rfl | (simp [errW_none, errW_some] <;> rfl) | (simp [*, errW_none, errW_some] <;> rfl), hz0 HB⟩
 ·rw [if_neg c2] at H
  have c2b0 : decide (1048576 < (l0.length : Int)) = false := decide_eq_false c2
  have c2b1 : decide (1048576 < l0.length) = false := decide_eq_false (by omega)
  clear c2
  replace H := Option.bind_eq_some_iff.mp H
  obtain ⟨⟨t530, t531, t532, t533⟩, A30, H⟩ := H
  try dsimp only at H
  have A3 := Aside0.mk A30
  clear A30
  replace H := Option.bind_eq_some_iff.mp H
  obtain ⟨⟨t537, t538, t539⟩, A40, H⟩ := H
  try dsimp only at H
  have A4 := Aside0.mk A40
  clear A40
  replace H := Option.bind_eq_some_iff.mp H
  obtain ⟨⟨t541, t542, t543⟩, A50, H⟩ := H
  try dsimp only at H
  have A5 := Aside0.mk A50
  clear A50
  have HC6 := Aside0.mk H
  clear H
  go_enter Try.func12, Try.ntmps12
  go_upto_region 6 with (first | ((with_reducible refine gate_callee (f := 33) rfl ?_); refine gL 15 Try.func33 #[.slice A0 l0.length c0] ?_; (with_reducible refine (spec_DrawExprSpan.calls k _ _ l0 t530 t531 t532 t533 _ ?side1 ?side2 A3.out).mono ?_); (case side1 => repeat (first | exact HR0.out | (with_reducible refine Kd.C_alloc ?_ _) | (with_reducible refine Kd.C_drewN ?_ _) | (with_reducible refine Kd.C_drew ?_))); (case side2 => exact HC0.out); rintro e w7 ⟨v534, rfl, ho0, hb⟩; refine ⟨_, rfl, ?_⟩; have HO535 := Aside0.mk (Kd.N_lower (Kd.N_mono (ok' := fun k_ => True) ho0 (fun k_ hk_ => trivial)) (below_size (hz0 HB))); replace HB := hbb (hz0 HB) hb; (try clear hb); (try clear hb2); (try clear hk); (try clear hi); (try clear ho0)) | ((with_reducible refine gate_dst (N := 3) rfl ?_); refine bE 3 #[.int .i64 0, .int .i64 0, .int .i64 0, .slice none 0 0] 25 ?_; intro gb536 hg w8 hbox hb; have BK536 := Aside0.mk (hbox); have GE536 := gw hg (hz0 HB); replace HO535 := Aside0.mk (Kd.N_below (Kd.N_elderB (by (with_reducible repeat (first | apply Kd.N_alloc | apply Kd.N_drewN | apply Kd.N_drew)); exact HO535.out) gb536 (Nat.le_of_eq hg.symm)) hb); replace HB := hbb (hz0 HB) hb; clear hb hbox hg; have hcz9_0 : w8.cell? ⟨gb536, 0, none⟩ = some (.int .i64 0) := (blk_cell BK536.out 0).trans rfl; have hcz9_1 : w8.cell? ⟨gb536, 1, none⟩ = some (.int .i64 0) := (blk_cell BK536.out 1).trans rfl; have hcz9_2 : w8.cell? ⟨gb536, 2, none⟩ = some (.int .i64 0) := (blk_cell BK536.out 2).trans rfl; have hcz9_3 : w8.cell? ⟨gb536, 3, none⟩ = some (.slice none 0 0) := (blk_cell BK536.out 3).trans rfl; have hfz9_0 := blk_frozen BK536.out 0; have hfz9_1 := blk_frozen BK536.out 1; have hfz9_2 := blk_frozen BK536.out 2; have hfz9_3 := blk_frozen BK536.out 3; obtain ⟨Ao10, co10, eo10⟩ := Kd.N_slice HO535.out; subst eo10) | ((with_reducible refine gate_callee (f := 31) rfl ?_); refine gL 18 Try.func31 #[.agg #[.int .i64 t530, .int .i64 t531, .int .i64 t532, .slice Ao10 t533.length co10]] ?_; (with_reducible refine (spec_ExprSpan.calls k t530 t531 t532 _ _ t533 t537 t538 t539 _ ?side1 ?side2 A4.out).mono ?_); (case side1 => refine (Kd.N_reads' (e := 25) (base := w.heap.size) (ok := fun k_ => (True ∧ k_ ≠ gb536)) (n := t533.length) (c := co10) ?_).2.2; exact (by (with_reducible repeat (first | apply Kd.N_alloc | apply Kd.N_drewN | apply Kd.N_drew)); exact (Kd.N_mono (Kd.N_far (p := ⟨gb536, 3, none⟩) (Kd.N_far (p := ⟨gb536, 2, none⟩) (Kd.N_far (p := ⟨gb536, 1, none⟩) (Kd.N_far (p := ⟨gb536, 0, none⟩) (Kd.N_mono HO535.out (fun k_ hk => (⟨hk, hk.2⟩ : _ ∧ k_ ≠ gb536))) (fun _ hk => hk.2) (.int .i64 t530)) (fun _ hk => hk.2) (.int .i64 t531)) (fun _ hk => hk.2) (.int .i64 t532)) (fun _ hk => hk.2) (.slice Ao10 t533.length co10)) (fun _ h_ => h_.1)))); (case side2 => exact (Kd.N_reads' HO535.out).2.1); rintro e w11 ⟨rfl, hb⟩; refine ⟨_, rfl, ?_⟩; replace HO535 := Aside0.mk (Kd.N_below (by (with_reducible repeat (first | apply Kd.N_alloc | apply Kd.N_drewN | apply Kd.N_drew)); exact (Kd.N_mono (Kd.N_far (p := ⟨gb536, 3, none⟩) (Kd.N_far (p := ⟨gb536, 2, none⟩) (Kd.N_far (p := ⟨gb536, 1, none⟩) (Kd.N_far (p := ⟨gb536, 0, none⟩) (Kd.N_mono HO535.out (fun k_ hk => (⟨hk, hk.2⟩ : _ ∧ k_ ≠ gb536))) (fun _ hk => hk.2) (.int .i64 t530)) (fun _ hk => hk.2) (.int .i64 t531)) (fun _ hk => hk.2) (.int .i64 t532)) (fun _ hk => hk.2) (.slice Ao10 t533.length co10)) (fun _ h_ => h_.1))) hb); replace BK536 := Aside0.mk (blk_below (g := gb536) (o := .cells #[.int .i64 t530, .int .i64 t531, .int .i64 t532, .slice Ao10 t533.length co10] 25 (0, 0)) (by (with_reducible repeat (first | refine blk_drewN ?_ _ | refine blk_drew ?_ | refine blk_alloc ?_ _)); refine blk_put (cs := #[.int .i64 t530, .int .i64 t531, .int .i64 t532, .slice none 0 0]) ?_ 3 _ rfl; (with_reducible repeat (first | refine blk_drewN ?_ _ | refine blk_drew ?_ | refine blk_alloc ?_ _)); refine blk_put (cs := #[.int .i64 t530, .int .i64 t531, .int .i64 0, .slice none 0 0]) ?_ 2 _ rfl; (with_reducible repeat (first | refine blk_drewN ?_ _ | refine blk_drew ?_ | refine blk_alloc ?_ _)); refine blk_put (cs := #[.int .i64 t530, .int .i64 0, .int .i64 0, .slice none 0 0]) ?_ 1 _ rfl; (with_reducible repeat (first | refine blk_drewN ?_ _ | refine blk_drew ?_ | refine blk_alloc ?_ _)); refine blk_put (cs := #[.int .i64 0, .int .i64 0, .int .i64 0, .slice none 0 0]) ?_ 0 _ rfl; (with_reducible repeat (first | refine blk_drewN ?_ _ | refine blk_drew ?_ | refine blk_alloc ?_ _)); exact BK536.out) hb); replace HB := hbb (hzs HB) hb; clear hb) | ((with_reducible refine gate_dst (N := 4) rfl ?_); refine bE 4 #[.int .i64 0, .int .i64 0] 31 ?_; intro gb540 hg w12 hbox hb; have BK540 := Aside0.mk (hbox); have GE540 := gw hg (hzs HB); have NB536_540 := nl hg (bk BK536); have NB540_536 := ng hg (bk BK536); replace HO535 := Aside0.mk (Kd.N_below (Kd.N_elderB (by (with_reducible repeat (first | apply Kd.N_alloc | apply Kd.N_drewN | apply Kd.N_drew)); exact HO535.out) gb540 (Nat.le_of_eq hg.symm)) hb); replace BK536 := bb (bk BK536) hb; replace HB := hbb (hzs HB) hb; clear hb hbox hg; have hnb13 := NB540_536.out; have hnc13 := NB536_540.out; obtain ⟨hcz14_0, hcz14_1, hfz14_0, hfz14_1⟩ := cz2 BK540; have hcz15_0 : w12.cell? ⟨gb536, 0, none⟩ = some (.int .i64 t530) := (blk_cell BK536.out 0).trans rfl; have hcz15_1 : w12.cell? ⟨gb536, 1, none⟩ = some (.int .i64 t531) := (blk_cell BK536.out 1).trans rfl; have hcz15_2 : w12.cell? ⟨gb536, 2, none⟩ = some (.int .i64 t532) := (blk_cell BK536.out 2).trans rfl; have hcz15_3 : w12.cell? ⟨gb536, 3, none⟩ = some (.slice Ao10 t533.length co10) := (blk_cell BK536.out 3).trans rfl; have hfz15_0 := blk_frozen BK536.out 0; have hfz15_1 := blk_frozen BK536.out 1; have hfz15_2 := blk_frozen BK536.out 2; have hfz15_3 := blk_frozen BK536.out 3) | ((with_reducible refine gate_callee (f := 18) rfl ?_); refine gL 23 Try.func18 #[.agg #[.int .i64 t530, .int .i64 t531, .int .i64 t532, .slice Ao10 t533.length co10]] ?_; (with_reducible refine (impl_ExprSpan.calls k t530 t531 t532 _ _ t533 t541 t542 t543 _ ?side1 ?side2 A5.out).mono ?_); (case side1 => refine (Kd.N_reads' (e := 25) (base := w.heap.size) (ok := fun k_ => ((True ∧ k_ ≠ gb536) ∧ k_ ≠ gb540)) (n := t533.length) (c := co10) ?_).2.2; exact (by (with_reducible repeat (first | apply Kd.N_alloc | apply Kd.N_drewN | apply Kd.N_drew)); exact (Kd.N_mono (Kd.N_far (p := ⟨gb540, 1, none⟩) (Kd.N_far (p := ⟨gb540, 0, none⟩) (Kd.N_mono HO535.out (fun k_ hk => (⟨hk, hk.2⟩ : _ ∧ k_ ≠ gb540))) (fun _ hk => hk.2) (.int .i64 t537)) (fun _ hk => hk.2) (.int .i64 t538)) (fun _ h_ => h_.1)))); (case side2 => exact (Kd.N_reads' HO535.out).2.1); rintro e w16 ⟨rfl, hb⟩; refine ⟨_, rfl, ?_⟩; replace HO535 := Aside0.mk (Kd.N_below (by (with_reducible repeat (first | apply Kd.N_alloc | apply Kd.N_drewN | apply Kd.N_drew)); exact (Kd.N_mono (Kd.N_far (p := ⟨gb540, 1, none⟩) (Kd.N_far (p := ⟨gb540, 0, none⟩) (Kd.N_mono HO535.out (fun k_ hk => (⟨hk, hk.2⟩ : _ ∧ k_ ≠ gb540))) (fun _ hk => hk.2) (.int .i64 t537)) (fun _ hk => hk.2) (.int .i64 t538)) (fun _ h_ => h_.1))) hb); replace BK536 := bb (bk1 BK536 NB536_540) hb; replace BK540 := bb (o := .cells #[.int .i64 t537, .int .i64 t538] 31 (0, 0)) (bkp BK540) hb; replace HB := hbb (hzs HB) hb; clear hb) | ((with_reducible refine gate_dst (N := 6) rfl ?_); refine bE 6 #[.int .i64 0, .int .i64 0] 31 ?_; intro gb544 hg w17 hbox hb; have BK544 := Aside0.mk (hbox); have GE544 := gw hg (hzs HB); have NB536_544 := nl hg (bk BK536); have NB544_536 := ng hg (bk BK536); have NB540_544 := nl hg (bk BK540); have NB544_540 := ng hg (bk BK540); replace HO535 := Aside0.mk (Kd.N_below (Kd.N_elderB (by (with_reducible repeat (first | apply Kd.N_alloc | apply Kd.N_drewN | apply Kd.N_drew)); exact HO535.out) gb544 (Nat.le_of_eq hg.symm)) hb); replace BK536 := bb (bk BK536) hb; replace BK540 := bb (bk BK540) hb; replace HB := hbb (hzs HB) hb; clear hb hbox hg; have hnb18 := NB544_536.out; have hnc18 := NB536_544.out; have hnb19 := NB544_540.out; have hnc19 := NB540_544.out; obtain ⟨hcz20_0, hcz20_1, hfz20_0, hfz20_1⟩ := cz2 BK544))
  (try simp only [Act.put, List.setIfInBounds_toArray, List.set_cons_zero, List.set_cons_succ])
  go_cut [37] (fun v37 wc => ∃ (kq : Nat) (x37_5 : Bool), v37 = .bool x37_5 ∧ Aside0 (laws_FnExprSpan.j0 kq t539 t543 x37_5 t530 t531 t532 t533 t537 t538 t541 t542 = some r) ∧ Aside0 (kq ≤ k) ∧ Aside0 (Kd.N k25 25 wc w.heap.size (fun k_ => k_ ≠ gb536 ∧ k_ ≠ gb540 ∧ k_ ≠ gb544) (.slice Ao10 t533.length co10) t533) ∧ Aside0 (wc.heap[gb536]? = some (.cells #[.int .i64 t530, .int .i64 t531, .int .i64 t532, (.slice Ao10 t533.length co10)] 25 (0, 0))) ∧ Aside0 (wc.heap[gb540]? = some (.cells #[.int .i64 t537, .int .i64 t538] 31 (0, 0))) ∧ Aside0 (wc.heap[gb544]? = some (.cells #[.int .i64 t541, .int .i64 t542] 31 (0, 0))) ∧ Aside0 (Below w.heap.size w wc))
  case first =>
   have H := HC6.out
   clear HC6
   by_cases c21 : (t543 != t539) = true
   ·rw [if_pos c21] at H
    have c21b0 : (t543 != t539) = true := c21
    (try (have c21b1 : decide (t543 = t539) = false := by simpa using c21))
    (try (have c21b2 : (t543 == t539) = false := by simpa using c21))
    (try (have c21b3 : ¬ (t543 = t539) := by simpa using c21))
    clear c21
    (first | rw [c21b0] | (simp only [i64_w, i32_w]; rw [c21b0]) | skip)
    have H' := Aside0.mk H
    clear H
    go_wp2
    go_meet
    case rel => exact ⟨_, (true), (by first | rfl | (simp; done) | (simp [*]; done)), H', ⟨by first | omega | exact Nat.le_refl _⟩, ⟨by (with_reducible repeat (first | apply Kd.N_alloc | apply Kd.N_drewN | apply Kd.N_drew)); exact Kd.N_mono (Kd.N_far (p := ⟨gb544, 1, none⟩) (Kd.N_far (p := ⟨gb544, 0, none⟩) (Kd.N_mono HO535.out (fun k_ hk => (⟨hk, hk.2⟩ : _ ∧ k_ ≠ gb544))) (fun _ hk => hk.2) (.int .i64 t541)) (fun _ hk => hk.2) (.int .i64 t542)) (fun _ hk => ⟨hk.1.1.1.2, ⟨hk.1.1.2, hk.1.2⟩⟩)⟩, ⟨bk1 BK536 NB536_544⟩, ⟨bk1 BK540 NB540_544⟩, ⟨bkp BK544⟩, ⟨hzs HB⟩⟩
   ·rw [if_neg c21] at H
    have c21b0 : (t543 != t539) = false := by simpa using c21
    (try (have c21b1 : decide (t543 = t539) = true := by simpa using c21))
    (try (have c21b2 : (t543 == t539) = true := by simpa using c21))
    clear c21
    (first | rw [c21b0] | (simp only [i64_w, i32_w]; rw [c21b0]) | skip)
    by_cases c22 : (!(t541 == t537) || (!(t542 == t538))) = true
    ·rw [if_pos c22] at H
     have c22b0 : (!(t541 == t537) || (!(t542 == t538))) = true := c22
     clear c22
     have H' := Aside0.mk H
     clear H
     have hnb23 := NB544_536.out
     have hnc23 := NB536_544.out
     have hnb24 := NB544_540.out
     have hnc24 := NB540_544.out
     obtain ⟨hcz25_0, hcz25_1, hfz25_0, hfz25_1⟩ := cz2 BK544
     have hnb26 := NB540_536.out
     have hnc26 := NB536_540.out
     obtain ⟨hcz27_0, hcz27_1, hfz27_0, hfz27_1⟩ := cz2 BK540
     go_wp2
     go_meet
     case rel => exact ⟨_, (true), (by first | rfl | (simp; done) | (simp [*]; done)), H', ⟨by first | omega | exact Nat.le_refl _⟩, ⟨by (with_reducible repeat (first | apply Kd.N_alloc | apply Kd.N_drewN | apply Kd.N_drew)); exact Kd.N_mono (Kd.N_far (p := ⟨gb544, 1, none⟩) (Kd.N_far (p := ⟨gb544, 0, none⟩) (Kd.N_mono HO535.out (fun k_ hk => (⟨hk, hk.2⟩ : _ ∧ k_ ≠ gb544))) (fun _ hk => hk.2) (.int .i64 t541)) (fun _ hk => hk.2) (.int .i64 t542)) (fun _ hk => ⟨hk.1.1.1.2, ⟨hk.1.1.2, hk.1.2⟩⟩)⟩, ⟨bk1 BK536 NB536_544⟩, ⟨bk1 BK540 NB540_544⟩, ⟨bkp BK544⟩, ⟨hzs HB⟩⟩
    ·rw [if_neg c22] at H
     have c22b0 : (!(t541 == t537) || (!(t542 == t538))) = false := by simpa using c22
     clear c22
     have H' := Aside0.mk H
     clear H
     have hnb28 := NB544_536.out
     have hnc28 := NB536_544.out
     have hnb29 := NB544_540.out
     have hnc29 := NB540_544.out
     obtain ⟨hcz30_0, hcz30_1, hfz30_0, hfz30_1⟩ := cz2 BK544
     have hnb31 := NB540_536.out
     have hnc31 := NB536_540.out
     obtain ⟨hcz32_0, hcz32_1, hfz32_0, hfz32_1⟩ := cz2 BK540
     go_wp2
     go_meet
     case rel => exact ⟨_, (!t543), (by first | rfl | (simp; done) | (simp [*]; done)), H', ⟨by first | omega | exact Nat.le_refl _⟩, ⟨by (with_reducible repeat (first | apply Kd.N_alloc | apply Kd.N_drewN | apply Kd.N_drew)); exact Kd.N_mono (Kd.N_far (p := ⟨gb544, 1, none⟩) (Kd.N_far (p := ⟨gb544, 0, none⟩) (Kd.N_mono HO535.out (fun k_ hk => (⟨hk, hk.2⟩ : _ ∧ k_ ≠ gb544))) (fun _ hk => hk.2) (.int .i64 t541)) (fun _ hk => hk.2) (.int .i64 t542)) (fun _ hk => ⟨hk.1.1.1.2, ⟨hk.1.1.2, hk.1.2⟩⟩)⟩, ⟨bk1 BK536 NB536_544⟩, ⟨bk1 BK540 NB540_544⟩, ⟨bkp BK544⟩, ⟨hzs HB⟩⟩
  case rest =>
   clear HC6
   try clear c1
   try clear c2
   try clear c2b0
   try clear c2b1
   try clear p2
   try clear c3
   try clear c12
   try clear c13
   try clear c18
   try clear c19
   try clear c21
   try clear c21b0
   try clear c21b1
   try clear c21b2
   try clear c22
   try clear c22b0
   try clear c23
   try clear c24
   try clear c26
   try clear c28
   try clear c29
   try clear c31
   try clear hcz14_0 hcz14_1
   try clear hcz15_0 hcz15_1 hcz15_2 hcz15_3
   try clear hcz20_0 hcz20_1
   try clear hcz25_0 hcz25_1
   try clear hcz27_0 hcz27_1
   try clear hcz30_0 hcz30_1
   try clear hcz32_0 hcz32_1
   try clear hcz9_0 hcz9_1 hcz9_2 hcz9_3
   try clear hfz14_0 hfz14_1
   try clear hfz15_0 hfz15_1 hfz15_2 hfz15_3
   try clear hfz20_0 hfz20_1
   try clear hfz25_0 hfz25_1
   try clear hfz27_0 hfz27_1
   try clear hfz30_0 hfz30_1
   try clear hfz32_0 hfz32_1
   try clear hfz9_0 hfz9_1 hfz9_2 hfz9_3
   obtain ⟨kq, x37_5, rfl, HA, HJ5, HO_537003, BK536, BK540, BK544, HB⟩ := hcut
   cases kq with
   | zero => exact absurd HA.out (by simp [laws_FnExprSpan.j0])
   | succ kj5 =>
    have H := HA.out
    clear HA
    simp only [laws_FnExprSpan.j0] at H
    by_cases c33 : x37_5 = true
    ·subst c33
     have H1 : (if (t543 == t539) = true then (some (t541 == t537 && (t542 == t538))) else (some false)) = some r := by rw [if_pos rfl] at H; exact H
     clear H
     have H := H1
     clear H1
     by_cases c34 : (t543 == t539) = true
     ·rw [if_pos c34] at H
      have c34b0 : (t543 == t539) = true := c34
      (try (have c34b1 : decide (t543 = t539) = true := by simpa using c34))
      (try (have c34b2 : (t543 == t539) = true := by simpa using c34))
      clear c34
      obtain rfl := Option.some.inj H
      have hnb35 := NB544_536.out
      have hnc35 := NB536_544.out
      have hnb36 := NB544_540.out
      have hnc36 := NB540_544.out
      obtain ⟨hcz37_0, hcz37_1, hfz37_0, hfz37_1⟩ := cz2 BK544
      have hnb38 := NB540_536.out
      have hnc38 := NB536_540.out
      obtain ⟨hcz39_0, hcz39_1, hfz39_0, hfz39_1⟩ := cz2 BK540
      go_wp2
      go_ret
      exact ⟨by first | rfl | (simp [errW_none, errW_some] <;> rfl) | (simp [*, errW_none, errW_some] <;> rfl), hzs HB⟩
     ·rw [if_neg c34] at H
      have c34b0 : (t543 == t539) = false := by simpa using c34
      (try (have c34b1 : decide (t543 = t539) = false := by simpa using c34))
      (try (have c34b2 : (t543 == t539) = false := by simpa using c34))
      (try (have c34b3 : ¬ (t543 = t539) := by simpa using c34))
      clear c34
      obtain rfl := Option.some.inj H
      go_wp2
      go_ret
      exact ⟨by first | rfl | (simp [errW_none, errW_some] <;> rfl) | (simp [*, errW_none, errW_some] <;> rfl), hzs HB⟩
    ·replace c33 := Bool.eq_false_iff.mpr c33
     subst c33
     have H1 : (laws_FnExprSpan.l0 kj5 0 t530 t531 t532 t533 t541 t542) = some r := by rw [if_neg (show ¬ (false = true) by decide)] at H; exact H
     clear H
     have H := H1
     clear H1
     have H' := Aside0.mk H
     clear H
     go_wp2
     go_loopg [8] kj5 (fun kq v8 w' => ∃ (x8_2 : Int), v8 = .int .i64 x8_2 ∧ Aside0 (laws_FnExprSpan.l0 kq x8_2 t530 t531 t532 t533 t541 t542 = some r) ∧ Aside0 (kq ≤ kj5) ∧ Aside0 (Kd.N k25 25 w' w.heap.size (fun k_ => k_ ≠ gb536 ∧ k_ ≠ gb540 ∧ k_ ≠ gb544) (.slice Ao10 t533.length co10) t533) ∧ Aside0 (w'.heap[gb536]? = some (.cells #[.int .i64 t530, .int .i64 t531, .int .i64 t532, (.slice Ao10 t533.length co10)] 25 (0, 0))) ∧ Aside0 (w'.heap[gb540]? = some (.cells #[.int .i64 t537, .int .i64 t538] 31 (0, 0))) ∧ Aside0 (w'.heap[gb544]? = some (.cells #[.int .i64 t541, .int .i64 t542] 31 (0, 0))) ∧ Aside0 (Below w.heap.size w w'))
     case atStart => exact ⟨(0), (by first | rfl | (simp; done) | (simp [*]; done)), H', ⟨Nat.le_refl _⟩, ⟨by (with_reducible repeat (first | apply Kd.N_alloc | apply Kd.N_drewN | apply Kd.N_drew)); exact HO_537003.out⟩, ⟨bk BK536⟩, ⟨bk BK540⟩, ⟨bk BK544⟩, ⟨hzs HB⟩⟩
     case round =>
      clear H'
      try clear c1
      try clear c2
      try clear c2b0
      try clear c2b1
      try clear p2
      try clear c3
      try clear c12
      try clear c13
      try clear c18
      try clear c19
      try clear c21
      try clear c21b0
      try clear c21b1
      try clear c21b2
      try clear c22
      try clear c22b0
      try clear c23
      try clear c24
      try clear c26
      try clear c28
      try clear c29
      try clear c31
      try clear c33
      try clear c34
      try clear c34b0
      try clear c34b1
      try clear c34b2
      try clear c35
      try clear c36
      try clear c38
      try clear hcz14_0 hcz14_1
      try clear hcz15_0 hcz15_1 hcz15_2 hcz15_3
      try clear hcz20_0 hcz20_1
      try clear hcz25_0 hcz25_1
      try clear hcz27_0 hcz27_1
      try clear hcz30_0 hcz30_1
      try clear hcz32_0 hcz32_1
      try clear hcz37_0 hcz37_1
      try clear hcz39_0 hcz39_1
      try clear hcz9_0 hcz9_1 hcz9_2 hcz9_3
      try clear hfz14_0 hfz14_1
      try clear hfz15_0 hfz15_1 hfz15_2 hfz15_3
      try clear hfz20_0 hfz20_1
      try clear hfz25_0 hfz25_1
      try clear hfz27_0 hfz27_1
      try clear hfz30_0 hfz30_1
      try clear hfz32_0 hfz32_1
      try clear hfz37_0 hfz37_1
      try clear hfz39_0 hfz39_1
      try clear hfz9_0 hfz9_1 hfz9_2 hfz9_3
      try clear p2
      obtain ⟨x8_2, rfl, HA, HK2, HO_537003, BK536, BK540, BK544, HB⟩ := hrel
      cases gk with
      | zero => exact absurd HA.out (by simp [laws_FnExprSpan.l0])
      | succ k2 =>
       have H := HA.out
       clear HA
       simp only [laws_FnExprSpan.l0] at H
       by_cases c40 : x8_2 < (t533.length : Int)
       ·rw [if_pos c40] at H
        have c40b0 : decide (x8_2 < (t533.length : Int)) = true := decide_eq_true c40
        clear c40
        by_cases c41 : 0 ≤ x8_2
        ·rw [if_pos c41] at H
         have c41b0 : decide (0 ≤ x8_2) = true := decide_eq_true c41
         clear c41
         replace H := Option.bind_eq_some_iff.mp H
         obtain ⟨⟨t546, t547, t548⟩, A420, H⟩ := H
         try dsimp only at H
         have A42 := Aside0.mk A420
         clear A420
         by_cases c43 : t548 = true
         ·subst c43
          have H1 : (laws_FnExprSpan.l0 k2 (wrap64 (x8_2 + 1)) t530 t531 t532 t533 t541 t542) = some r := by rw [if_pos rfl] at H; exact H
          clear H
          have H := H1
          clear H1
          have H' := Aside0.mk H
          clear H
          have hnb44 := NB536_540.out
          have hnc44 := NB540_536.out
          have hnb45 := NB536_544.out
          have hnc45 := NB544_536.out
          have hcz46_0 : wr.cell? ⟨gb536, 0, none⟩ = some (.int .i64 t530) := (blk_cell BK536.out 0).trans rfl
          have hcz46_1 : wr.cell? ⟨gb536, 1, none⟩ = some (.int .i64 t531) := (blk_cell BK536.out 1).trans rfl
          have hcz46_2 : wr.cell? ⟨gb536, 2, none⟩ = some (.int .i64 t532) := (blk_cell BK536.out 2).trans rfl
          have hcz46_3 : wr.cell? ⟨gb536, 3, none⟩ = some (.slice Ao10 t533.length co10) := (blk_cell BK536.out 3).trans rfl
          have hfz46_0 := blk_frozen BK536.out 0
          have hfz46_1 := blk_frozen BK536.out 1
          have hfz46_2 := blk_frozen BK536.out 2
          have hfz46_3 := blk_frozen BK536.out 3
          have p545 : 0 ≤ (x8_2 : Int) := of_decide_eq_true (by first | (with_reducible assumption) | assumption)
          have q545 : x8_2 < (t533.length : Int) := of_decide_eq_true (by first | (with_reducible assumption) | assumption)
          obtain ⟨ad545, A545_3, c545_3, e545, hx545_0, hx545_1, hx545_2, hx545_3, hl545_3, hi545_3⟩ := at_T25 (Kd.N_reads' HO_537003.out).2.2 x8_2 p545 q545
          cases e545
          obtain ⟨ce545, hce545, hMe545, hcc545⟩ := Kd.N_get HO_537003.out z25 x8_2 p545 (by first | exact q545 | exact of_decide_eq_true (by first | (with_reducible assumption) | assumption) | (have e_ := (Kd.N_reads' HO_537003.out).1; omega))
          obtain ⟨ua545_3, uc545_3, rfl, ul545_3, ge545_3⟩ := k25_openF hMe545
          have hv545_3 := hcc545 3 _ rfl
          rw [add_field _ _ 3 (by omega)] at hv545_3
          replace hv545_3 := Option.some.inj (hv545_3.symm.trans hx545_3)
          injection hv545_3 with hva_ hvn_ hvc_
          rw [hva_] at ge545_3
          rw [hvc_] at ul545_3
          have HL545_3 := Aside0.mk (show Kd.V k25 25 _ w.heap.size _ _ ((rd_T25 t533 x8_2).f3) from Kd.V_mk ul545_3 ge545_3)
          clear hva_ hvn_ hvc_ ge545_3 ul545_3
          clear hcc545 hce545
          have HR545_3 := Aside0.mk hi545_3
          have HC545_3 := Aside0.mk hl545_3
          clear hi545_3 hl545_3
          replace p545 := eq_true p545
          replace q545 := eq_true q545
          go_wp2_with (first | ((with_reducible refine gate_callee (f := 18) rfl ?_); refine gL 59 Try.func18 #[.agg #[.int .i64 ((rd_T25 t533 x8_2).f0), .int .i64 ((rd_T25 t533 x8_2).f1), .int .i64 ((rd_T25 t533 x8_2).f2), .slice A545_3 ((rd_T25 t533 x8_2).f3).length c545_3]] ?_; (with_reducible refine (impl_ExprSpan.calls k2 ((rd_T25 t533 x8_2).f0) ((rd_T25 t533 x8_2).f1) ((rd_T25 t533 x8_2).f2) _ _ ((rd_T25 t533 x8_2).f3) t546 t547 true _ ?side1 ?side2 A42.out).mono ?_); (case side1 => repeat (first | exact (by repeat (first | (with_reducible exact HR545_3.out) | (with_reducible refine Kd.C_alloc ?_ _) | (with_reducible refine Kd.C_drewN ?_ _) | (with_reducible refine Kd.C_drew ?_) | exact HR545_3.out)) | (with_reducible refine Kd.C_alloc ?_ _) | (with_reducible refine Kd.C_drewN ?_ _) | (with_reducible refine Kd.C_drew ?_))); (case side2 => exact HC545_3.out); rintro e w47 ⟨rfl, hb⟩; refine ⟨_, rfl, ?_⟩; replace HO_537003 := Aside0.mk (Kd.N_below (by (with_reducible repeat (first | apply Kd.N_alloc | apply Kd.N_drewN | apply Kd.N_drew)); exact HO_537003.out) hb); replace HL545_3 := Aside0.mk (Kd.V_below (by (with_reducible repeat (first | apply Kd.V_alloc | apply Kd.V_drewN | apply Kd.V_drew)); exact HL545_3.out) hb); replace BK536 := bb (bk BK536) hb; replace BK540 := bb (bk BK540) hb; replace BK544 := bb (bk BK544) hb; replace HR545_3 := Aside0.mk (Kd.C_below (by repeat (first | (with_reducible exact HR545_3.out) | (with_reducible refine Kd.C_alloc ?_ _) | (with_reducible refine Kd.C_drewN ?_ _) | (with_reducible refine Kd.C_drew ?_) | exact HR545_3.out)) hb); replace HB := hbb (hzs HB) hb; clear hb) | ((with_reducible refine gate_dst (N := 9) rfl ?_); refine bE 9 #[.int .i64 0, .int .i64 0] 31 ?_; intro gb549 hg w48 hbox hb; have BK549 := Aside0.mk (hbox); have GE549 := gw hg (hzs HB); have GW549 := GE549; have NB536_549 := nl hg (bk BK536); have NB549_536 := ng hg (bk BK536); have NB540_549 := nl hg (bk BK540); have NB549_540 := ng hg (bk BK540); have NB544_549 := nl hg (bk BK544); have NB549_544 := ng hg (bk BK544); replace HO_537003 := Aside0.mk (Kd.N_below (Kd.N_elderB (by (with_reducible repeat (first | apply Kd.N_alloc | apply Kd.N_drewN | apply Kd.N_drew)); exact HO_537003.out) gb549 (Nat.le_of_eq hg.symm)) hb); replace HL545_3 := Aside0.mk (Kd.V_below (Kd.V_elderB (by (with_reducible repeat (first | apply Kd.V_alloc | apply Kd.V_drewN | apply Kd.V_drew)); exact HL545_3.out) gb549 (Nat.le_of_eq hg.symm)) hb); replace BK536 := bb (bk BK536) hb; replace BK540 := bb (bk BK540) hb; replace BK544 := bb (bk BK544) hb; replace HR545_3 := Aside0.mk (Kd.C_below (by repeat (first | (with_reducible exact HR545_3.out) | (with_reducible refine Kd.C_alloc ?_ _) | (with_reducible refine Kd.C_drewN ?_ _) | (with_reducible refine Kd.C_drew ?_) | exact HR545_3.out)) hb); replace HB := hbb (hzs HB) hb; clear hb hbox hg; have hnb49 := NB549_536.out; have hnc49 := NB536_549.out; have hnb50 := NB549_540.out; have hnc50 := NB540_549.out; have hnb51 := NB549_544.out; have hnc51 := NB544_549.out; obtain ⟨hcz52_0, hcz52_1, hfz52_0, hfz52_1⟩ := cz2 BK549))
          go_roundg k2
          case measure => have := HJ5.out; have := HK2.out; omega
          case rel => exact ⟨(wrap64 (x8_2 + 1)), (by first | rfl | (simp; done) | (simp [*]; done)), H', ⟨by have := HJ5.out; have := HK2.out; omega⟩, ⟨by (with_reducible repeat (first | apply Kd.N_alloc | apply Kd.N_drewN | apply Kd.N_drew)); exact Kd.N_mono (Kd.N_far (p := ⟨gb549, 1, none⟩) (Kd.N_far (p := ⟨gb549, 0, none⟩) (Kd.N_mono HO_537003.out (fun k_ hk => (⟨hk, hk.2⟩ : _ ∧ k_ ≠ gb549))) (fun _ hk => hk.2) (.int .i64 t546)) (fun _ hk => hk.2) (.int .i64 t547)) (fun _ hk => ⟨hk.1.1.1, ⟨hk.1.1.2.1, hk.1.1.2.2⟩⟩)⟩, ⟨bk1 BK536 NB536_549⟩, ⟨bk1 BK540 NB540_549⟩, ⟨bk1 BK544 NB544_549⟩, ⟨hzs HB⟩⟩
         ·replace c43 := Bool.eq_false_iff.mpr c43
          subst c43
          have H1 : (some false) = some r := by rw [if_neg (show ¬ (false = true) by decide)] at H; exact H
          clear H
          have H := H1
          clear H1
          obtain rfl := Option.some.inj H
          have hnb53 := NB536_540.out
          have hnc53 := NB540_536.out
          have hnb54 := NB536_544.out
          have hnc54 := NB544_536.out
          have hcz55_0 : wr.cell? ⟨gb536, 0, none⟩ = some (.int .i64 t530) := (blk_cell BK536.out 0).trans rfl
          have hcz55_1 : wr.cell? ⟨gb536, 1, none⟩ = some (.int .i64 t531) := (blk_cell BK536.out 1).trans rfl
          have hcz55_2 : wr.cell? ⟨gb536, 2, none⟩ = some (.int .i64 t532) := (blk_cell BK536.out 2).trans rfl
          have hcz55_3 : wr.cell? ⟨gb536, 3, none⟩ = some (.slice Ao10 t533.length co10) := (blk_cell BK536.out 3).trans rfl
          have hfz55_0 := blk_frozen BK536.out 0
          have hfz55_1 := blk_frozen BK536.out 1
          have hfz55_2 := blk_frozen BK536.out 2
          have hfz55_3 := blk_frozen BK536.out 3
          have p545 : 0 ≤ (x8_2 : Int) := of_decide_eq_true (by first | (with_reducible assumption) | assumption)
          have q545 : x8_2 < (t533.length : Int) := of_decide_eq_true (by first | (with_reducible assumption) | assumption)
          obtain ⟨ad545, A545_3, c545_3, e545, hx545_0, hx545_1, hx545_2, hx545_3, hl545_3, hi545_3⟩ := at_T25 (Kd.N_reads' HO_537003.out).2.2 x8_2 p545 q545
          cases e545
          obtain ⟨ce545, hce545, hMe545, hcc545⟩ := Kd.N_get HO_537003.out z25 x8_2 p545 (by first | exact q545 | exact of_decide_eq_true (by first | (with_reducible assumption) | assumption) | (have e_ := (Kd.N_reads' HO_537003.out).1; omega))
          obtain ⟨ua545_3, uc545_3, rfl, ul545_3, ge545_3⟩ := k25_openF hMe545
          have hv545_3 := hcc545 3 _ rfl
          rw [add_field _ _ 3 (by omega)] at hv545_3
          replace hv545_3 := Option.some.inj (hv545_3.symm.trans hx545_3)
          injection hv545_3 with hva_ hvn_ hvc_
          rw [hva_] at ge545_3
          rw [hvc_] at ul545_3
          have HL545_3 := Aside0.mk (show Kd.V k25 25 _ w.heap.size _ _ ((rd_T25 t533 x8_2).f3) from Kd.V_mk ul545_3 ge545_3)
          clear hva_ hvn_ hvc_ ge545_3 ul545_3
          clear hcc545 hce545
          have HR545_3 := Aside0.mk hi545_3
          have HC545_3 := Aside0.mk hl545_3
          clear hi545_3 hl545_3
          replace p545 := eq_true p545
          replace q545 := eq_true q545
          go_wp2_with (first | ((with_reducible refine gate_callee (f := 18) rfl ?_); refine gL 59 Try.func18 #[.agg #[.int .i64 ((rd_T25 t533 x8_2).f0), .int .i64 ((rd_T25 t533 x8_2).f1), .int .i64 ((rd_T25 t533 x8_2).f2), .slice A545_3 ((rd_T25 t533 x8_2).f3).length c545_3]] ?_; (with_reducible refine (impl_ExprSpan.calls k2 ((rd_T25 t533 x8_2).f0) ((rd_T25 t533 x8_2).f1) ((rd_T25 t533 x8_2).f2) _ _ ((rd_T25 t533 x8_2).f3) t546 t547 false _ ?side1 ?side2 A42.out).mono ?_); (case side1 => repeat (first | exact (by repeat (first | (with_reducible exact HR545_3.out) | (with_reducible refine Kd.C_alloc ?_ _) | (with_reducible refine Kd.C_drewN ?_ _) | (with_reducible refine Kd.C_drew ?_) | exact HR545_3.out)) | (with_reducible refine Kd.C_alloc ?_ _) | (with_reducible refine Kd.C_drewN ?_ _) | (with_reducible refine Kd.C_drew ?_))); (case side2 => exact HC545_3.out); rintro e w56 ⟨rfl, hb⟩; refine ⟨_, rfl, ?_⟩; replace HO_537003 := Aside0.mk (Kd.N_below (by (with_reducible repeat (first | apply Kd.N_alloc | apply Kd.N_drewN | apply Kd.N_drew)); exact HO_537003.out) hb); replace HL545_3 := Aside0.mk (Kd.V_below (by (with_reducible repeat (first | apply Kd.V_alloc | apply Kd.V_drewN | apply Kd.V_drew)); exact HL545_3.out) hb); replace BK536 := bb (bk BK536) hb; replace BK540 := bb (bk BK540) hb; replace BK544 := bb (bk BK544) hb; replace HR545_3 := Aside0.mk (Kd.C_below (by repeat (first | (with_reducible exact HR545_3.out) | (with_reducible refine Kd.C_alloc ?_ _) | (with_reducible refine Kd.C_drewN ?_ _) | (with_reducible refine Kd.C_drew ?_) | exact HR545_3.out)) hb); replace HB := hbb (hzs HB) hb; clear hb) | ((with_reducible refine gate_dst (N := 9) rfl ?_); refine bE 9 #[.int .i64 0, .int .i64 0] 31 ?_; intro gb549 hg w57 hbox hb; have BK549 := Aside0.mk (hbox); have GE549 := gw hg (hzs HB); have GW549 := GE549; have NB536_549 := nl hg (bk BK536); have NB549_536 := ng hg (bk BK536); have NB540_549 := nl hg (bk BK540); have NB549_540 := ng hg (bk BK540); have NB544_549 := nl hg (bk BK544); have NB549_544 := ng hg (bk BK544); replace HO_537003 := Aside0.mk (Kd.N_below (Kd.N_elderB (by (with_reducible repeat (first | apply Kd.N_alloc | apply Kd.N_drewN | apply Kd.N_drew)); exact HO_537003.out) gb549 (Nat.le_of_eq hg.symm)) hb); replace HL545_3 := Aside0.mk (Kd.V_below (Kd.V_elderB (by (with_reducible repeat (first | apply Kd.V_alloc | apply Kd.V_drewN | apply Kd.V_drew)); exact HL545_3.out) gb549 (Nat.le_of_eq hg.symm)) hb); replace BK536 := bb (bk BK536) hb; replace BK540 := bb (bk BK540) hb; replace BK544 := bb (bk BK544) hb; replace HR545_3 := Aside0.mk (Kd.C_below (by repeat (first | (with_reducible exact HR545_3.out) | (with_reducible refine Kd.C_alloc ?_ _) | (with_reducible refine Kd.C_drewN ?_ _) | (with_reducible refine Kd.C_drew ?_) | exact HR545_3.out)) hb); replace HB := hbb (hzs HB) hb; clear hb hbox hg; have hnb58 := NB549_536.out; have hnc58 := NB536_549.out; have hnb59 := NB549_540.out; have hnc59 := NB540_549.out; have hnb60 := NB549_544.out; have hnc60 := NB544_549.out; obtain ⟨hcz61_0, hcz61_1, hfz61_0, hfz61_1⟩ := cz2 BK549))
          go_ret
          exact ⟨by first | rfl | (simp [errW_none, errW_some] <;> rfl) | (simp [*, errW_none, errW_some] <;> rfl), hzs HB⟩
        ·rw [if_neg c41] at H
         exact absurd H (by simp)
       ·rw [if_neg c40] at H
        have c40b0 : decide (x8_2 < (t533.length : Int)) = false := decide_eq_false c40
        clear c40
        replace H := Option.bind_eq_some_iff.mp H
        obtain ⟨t550, A620, H⟩ := H
        try dsimp only at H
        have A62 := Aside0.mk A620
        clear A620
        obtain rfl := Option.some.inj H
        have hnb63 := NB536_540.out
        have hnc63 := NB540_536.out
        have hnb64 := NB536_544.out
        have hnc64 := NB544_536.out
        have hcz65_0 : wr.cell? ⟨gb536, 0, none⟩ = some (.int .i64 t530) := (blk_cell BK536.out 0).trans rfl
        have hcz65_1 : wr.cell? ⟨gb536, 1, none⟩ = some (.int .i64 t531) := (blk_cell BK536.out 1).trans rfl
        have hcz65_2 : wr.cell? ⟨gb536, 2, none⟩ = some (.int .i64 t532) := (blk_cell BK536.out 2).trans rfl
        have hcz65_3 : wr.cell? ⟨gb536, 3, none⟩ = some (.slice Ao10 t533.length co10) := (blk_cell BK536.out 3).trans rfl
        have hfz65_0 := blk_frozen BK536.out 0
        have hfz65_1 := blk_frozen BK536.out 1
        have hfz65_2 := blk_frozen BK536.out 2
        have hfz65_3 := blk_frozen BK536.out 3
        have hnb66 := NB544_540.out
        have hnc66 := NB540_544.out
        obtain ⟨hcz67_0, hcz67_1, hfz67_0, hfz67_1⟩ := cz2 BK544
        go_wp2_with (first | ((with_reducible refine gate_callee (f := 35) rfl ?_); refine gL 65 Try.func35 #[.agg #[.int .i64 t541, .int .i64 t542]] ?_; (with_reducible refine (impl_SpanOk.calls t541 t542 t550 _ A62.out).mono ?_); rintro e w68 ⟨rfl, hb⟩; refine ⟨_, rfl, ?_⟩; replace HO_537003 := Aside0.mk (Kd.N_below (by (with_reducible repeat (first | apply Kd.N_alloc | apply Kd.N_drewN | apply Kd.N_drew)); exact HO_537003.out) hb); replace BK536 := bb (bk BK536) hb; replace BK540 := bb (bk BK540) hb; replace BK544 := bb (bk BK544) hb; replace HB := hbb (hzs HB) hb; clear hb))
        go_ret
        exact ⟨by first | rfl | (simp [errW_none, errW_some] <;> rfl) | (simp [*, errW_none, errW_some] <;> rfl), hzs HB⟩


/-! ### the parts of what can be reckoned -/
theorem rd_mem {l : List S25} {i : Int} (h0 : 0 ≤ i) (h1 : i < (l.length : Int)) : rd_T25 l i ∈ l := by
 unfold rd_T25
 rw [List.getD_eq_getElem?_getD, List.getElem?_eq_getElem (by omega)]
 exact List.getElem_mem _
theorem len_nodes (l : List S25) : l.length ≤ nodesL l := by
 induction l with
 | nil => exact Nat.zero_le _
 | cons x l ih => rw [nodesL]; have := nodes_pos x; simp only [List.length_cons]; omega
theorem drawExprSpan_tells {l : List Int} (hl : Bytes l) {k : Nat} (hk : 1400 ≤ k) : ∃ f0 f1 f2 m, spec_DrawExprSpan.f k l = some (f0, f1, f2, m) ∧ nodes ⟨f0, f1, f2, m⟩ ≤ 63 := by
 unfold spec_DrawExprSpan.f
 obtain ⟨b, h1, h2, h3⟩ := open_tells hl
 rw [h1]; simp only [Option.bind_some]
 obtain ⟨g0, g1, g2, m, p, q1, q2, q3, q4⟩ := bent_tells h2 h3 false (show (0 : Int) ≤ 0 by omega) (by omega) (k := k) (by omega)
 rw [q1]; simp only [Option.bind_some]
 exact ⟨_, _, _, _, rfl, q2⟩
theorem spans_all {l : List S25} (h : (spansM l).1 = true) : ∀ x ∈ l, (spanM x).2.2 = true := by
 induction l with
 | nil => intro x hx; cases hx
 | cons y l ih =>
  rw [spansM] at h
  by_cases c : (spanM y).2.2 = true
  ·rw [if_pos c] at h
   intro x hx
   rcases List.mem_cons.1 hx with e | e
   ·rw [e]; exact c
   ·exact ih h x e
  ·rw [if_neg c] at h; cases h
theorem kid_told {f0 f1 f2 : Int} {l : List S25} (h : (exprR ⟨f0, f1, f2, l⟩).2.2 = true) : ∀ x ∈ l, (exprR x).2.2 = true := by
 unfold exprR at h
 by_cases c : sizeM ⟨f0, f1, f2, l⟩ ≤ 15
 ·rw [if_pos c, spanM] at h
  by_cases d : (spansM l).1 = true
  ·intro x hx
   have p := ok_parts c
   have q := part_le hx
   unfold exprR
   rw [if_pos (by omega)]
   exact spans_all d x hx
  ·rw [if_neg d] at h; cases h
 ·rw [if_neg c] at h; cases h
theorem spanKids_tells {f0 f1 f2 a b : Int} {l : List S25} (hn : nodesL l ≤ 100) (hs : ∀ x ∈ l, (exprR x).2.2 = true) (ho : OkM (a, b)) (d : Nat) : ∀ (i : Int) (k : Nat), 0 ≤ i → i + d = (l.length : Int) → 2600 + d ≤ k → laws_FnExprSpan.l0 k i f0 f1 f2 l a b = some true := by
 have ln := len_nodes l
 have o : -1073000000 ≤ a ∧ a ≤ b ∧ b ≤ 1073000000 := ho
 induction d with
 | zero =>
  intro i k h1 h2 h3
  obtain ⟨k, rfl⟩ : ∃ q, k = q + 1 := ⟨k - 1, by omega⟩
  rw [laws_FnExprSpan.l0, if_neg (by omega), (SpanOk_is a b).1, decide_eq_true o]
  rfl
 | succ d ih =>
  intro i k h1 h2 h3
  obtain ⟨k, rfl⟩ : ∃ q, k = q + 1 := ⟨k - 1, by omega⟩
  have m := rd_mem h1 (show i < (l.length : Int) by omega)
  have p := part_le m
  rw [laws_FnExprSpan.l0, if_pos (by omega), if_pos h1, (ExprSpan_is (e := rd_T25 l i) (by omega) (by omega)).1]
  simp only [Option.bind_some]
  rw [if_pos (hs _ m), w64 (x := i + 1) (by omega) (by omega)]
  exact ih (i + 1) k (by omega) (by omega) (by omega)
theorem FnExprSpan_pure {l0 : List Int} (hl : Bytes l0) {k : Nat} (hk : 3000 ≤ k) : laws_FnExprSpan.f k l0 = some true := by
 unfold laws_FnExprSpan.f
 by_cases h : (l0.length : Int) > 1048576
 ·rw [if_pos h]
 rw [if_neg h]
 obtain ⟨f0, f1, f2, m, q, hn⟩ := drawExprSpan_tells hl (k := k) (by omega)
 rw [q]; simp only [Option.bind_some]
 have e1 := ExprSpan_is (e := ⟨f0, f1, f2, m⟩) (by omega) (k := k) (by omega)
 dsimp only at e1
 rw [e1.1, e1.2]
 simp only [Option.bind_some, bne_self_eq_false, Bool.false_eq_true, if_false, beq_self_eq_true, Bool.not_true, Bool.or_self]
 obtain ⟨k, rfl⟩ : ∃ q, k = q + 1 := ⟨k - 1, by omega⟩
 rw [laws_FnExprSpan.j0]
 by_cases c : (exprR ⟨f0, f1, f2, m⟩).2.2 = true
 ·rw [c, Bool.not_true, if_neg (show ¬ (false = true) by decide)]
  rw [nodes] at hn
  have ln := len_nodes m
  exact spanKids_tells (by omega) (kid_told c) ((exprR_ok _).pair c) m.length 0 k (by omega) (by omega) (by omega)
 ·rw [Bool.not_eq_true] at c
  rw [c, Bool.not_false, if_pos rfl]
  simp only [beq_self_eq_true, if_true, Bool.and_self]
theorem FnExprSpan_true (A0 : Option Addr) (c0 : Nat) (l0 : List Int) (w : World) (hr0 : Kd.C (Kd.int .u8) w A0 l0.length l0) (hc0 : l0.length ≤ c0) (hw0 : ∀ x ∈ l0, (Lit.int .u8 x).wf = true) :
  Calls Try.prog 12 #[.slice A0 l0.length c0] w fun e w' => e = .returned (.bool true) ∧ Below w.heap.size w w' :=
 laws_FnExprSpan.calls 3000 A0 c0 l0 true w hr0 hc0 (FnExprSpan_pure (bytes_of hw0) (by omega))

end Go.Proofs.Ytlodpfddimeffaa.M
