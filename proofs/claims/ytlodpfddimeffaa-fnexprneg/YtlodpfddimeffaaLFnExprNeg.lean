import Derived.Test.YtlodpfddimeffaaP6
import Derived.Test.YtlodpfddimeffaaP8
import Derived.Test.YtlodpfddimeffaaDe
namespace Go.Proofs.Ytlodpfddimeffaa.M
open Go.RowKit Go.Proofs.YtlodpfddimeffaaW.PrintWords Go.Proofs.YtlodpfddimeffaaW.PrintLast Go.Proofs.YtlodpfddimeffaaW.PrintMore
attribute [local go_sem] max2_int min2_int max_two min_two max_three min_three max_four min_four
attribute [local go_sem high] eqA31
attribute [local go_sem] fld31_0 fld31_1 fld25_0 fld25_1 fld25_2 fld25_3
set_option linter.unusedVariables false
set_option linter.unusedSimpArgs false
/-! ### laws_FnExprNeg: function 11 -/
def laws_FnExprNeg.j0 : Nat → Bool → Bool → Bool → Int → Int → Int → List (S25) → Int → Int → Int → Int → Option (Bool)
 | 0, _, _, _, _, _, _, _, _, _, _, _ => none
 | k + 1, x5, x7, x37, x537000, x537001, x537002, x537003, x541000, x541001, x545000, x545001 => if x37 = true then (if (x7 == x5) = true then (some (x545000 == x541000 && (x545001 == x541001))) else (some false)) else ((some (([(⟨x537000, x537001, x537002, x537003⟩ : S25)] : List (S25)) : List (S25))).bind fun y545 => ((impl_ExprSpan.f k 2 0 0 y545).bind fun bt549 => ((impl_ExprOk.f k 2 0 0 y545).bind fun t553 => (if t553 = true then (if bt549.2.2 = true then ((impl_SpanNeg.f x545000 x545001).bind fun bt554 => (some (bt549.1 == bt554.1 && (bt549.2.1 == bt554.2)))) else (some false)) else (some true)))))
def laws_FnExprNeg.f (k : Nat) (l0 : List Int) : Option (Bool) := if (l0.length : Int) > 1048576 then (some true) else ((spec_DrawExprSpan.f k l0).bind fun bt530 => ((spec_ExprSpan.f k bt530.1 bt530.2.1 bt530.2.2.1 bt530.2.2.2).bind fun bt537 => ((impl_ExprSpan.f k bt530.1 bt530.2.1 bt530.2.2.1 bt530.2.2.2).bind fun bt541 => (if (bt541.2.2 != bt537.2.2) = true then (laws_FnExprNeg.j0 k bt537.2.2 bt541.2.2 true bt530.1 bt530.2.1 bt530.2.2.1 bt530.2.2.2 bt537.1 bt537.2.1 bt541.1 bt541.2.1) else (if (!(bt541.1 == bt537.1) || (!(bt541.2.1 == bt537.2.1))) = true then (laws_FnExprNeg.j0 k bt537.2.2 bt541.2.2 true bt530.1 bt530.2.1 bt530.2.2.1 bt530.2.2.2 bt537.1 bt537.2.1 bt541.1 bt541.2.1) else (laws_FnExprNeg.j0 k bt537.2.2 bt541.2.2 (!bt541.2.2) bt530.1 bt530.2.1 bt530.2.2.1 bt530.2.2.2 bt537.1 bt537.2.1 bt541.1 bt541.2.1))))))
def laws_FnExprNeg.T10 : Bool × List (List Nat × List Nat) := (true, [([], []), ([0], [0]), ([1], [1]), ([2, 1], [2]), ([3], [3]), ([4, 3, 3], [3, 4]), ([5], [5]), ([5], [5]), ([7, 5, 5], [5, 7]), ([6, 8, 5], [5, 6, 8]), ([5, 9, 3], [3, 5, 9]), ([3, 10], [3, 10]), ([11, 8, 0, 1, 2, 3, 4, 5, 6, 7, 8, 9, 10, 11], [11])])
def laws_FnExprNeg.B10 : List Nat := [0, 1, 3, 7, 15, 31, 63, 63, 191, 511, 1023, 2047, 4095]
theorem laws_FnExprNeg.tab10 : rtab .any (opsOf Try.f11 10) = laws_FnExprNeg.T10 := by kernel_rfl
theorem laws_FnExprNeg.bits10 : waitsOk laws_FnExprNeg.T10.2 laws_FnExprNeg.B10 = true := by kernel_rfl
set_option maxHeartbeats 8000000 in
set_option maxRecDepth 100000 in
theorem laws_FnExprNeg.calls (k : Nat) (A0 : Option Addr) (c0 : Nat) (l0 : List Int) (r : Bool) (w : World) (hr0 : Kd.C (Kd.int .u8) w A0 l0.length l0) (hc0 : l0.length ≤ c0) (h : laws_FnExprNeg.f k l0 = some r) :
  Calls Try.prog 11 #[.slice A0 l0.length c0] w fun e w' => e = .returned (.bool r) ∧ Below w.heap.size w w' := by
 have hu25 := Try.underlying25
 have hu31 := Try.underlying31
 have HR0 := Aside0.mk hr0
 have HC0 := Aside0.mk hc0
 clear hr0 hc0
 have HB := Aside0.mk (Below.refl w.heap.size w)
 have H : (if (l0.length : Int) > 1048576 then (some true) else ((spec_DrawExprSpan.f k l0).bind fun bt530 => ((spec_ExprSpan.f k bt530.1 bt530.2.1 bt530.2.2.1 bt530.2.2.2).bind fun bt537 => ((impl_ExprSpan.f k bt530.1 bt530.2.1 bt530.2.2.1 bt530.2.2.2).bind fun bt541 => (if (bt541.2.2 != bt537.2.2) = true then (laws_FnExprNeg.j0 k bt537.2.2 bt541.2.2 true bt530.1 bt530.2.1 bt530.2.2.1 bt530.2.2.2 bt537.1 bt537.2.1 bt541.1 bt541.2.1) else (if (!(bt541.1 == bt537.1) || (!(bt541.2.1 == bt537.2.1))) = true then (laws_FnExprNeg.j0 k bt537.2.2 bt541.2.2 true bt530.1 bt530.2.1 bt530.2.2.1 bt530.2.2.2 bt537.1 bt537.2.1 bt541.1 bt541.2.1) else (laws_FnExprNeg.j0 k bt537.2.2 bt541.2.2 (!bt541.2.2) bt530.1 bt530.2.1 bt530.2.2.1 bt530.2.2.2 bt537.1 bt537.2.1 bt541.1 bt541.2.1))))))) = some r := h
 clear h
 by_cases c2 : (l0.length : Int) > 1048576
 ·rw [if_pos c2] at H
  have c2b0 : decide (1048576 < (l0.length : Int)) = true := decide_eq_true c2
  have c2b1 : decide (1048576 < l0.length) = true := decide_eq_true (by omega)
  clear c2
  obtain rfl := Option.some.inj H
  go_enter Try.func11, Try.ntmps11
  go_wp2
  go_ret
  exact ⟨by first | rfl | (simp [errW_none, errW_some] <;> rfl) | (simp [*, errW_none, errW_some] <;> rfl), hz0 HB⟩
 ·rw [if_neg c2] at H
  have c2b0 : decide (1048576 < (l0.length : Int)) = false := decide_eq_false c2
  have c2b1 : decide (1048576 < l0.length) = false := decide_eq_false (by omega)
  clear c2
  replace H := Option.bind_eq_some_iff.mp H
  obtain ⟨⟨t530, t531, t532, t533⟩, A30, H⟩ := H
  try dsimp only at H
  have A3 := Aside0.mk A30
  clear A30
  replace H := Option.bind_eq_some_iff.mp H
  obtain ⟨⟨t537, t538, t539⟩, A40, H⟩ := H
  try dsimp only at H
  have A4 := Aside0.mk A40
  clear A40
  replace H := Option.bind_eq_some_iff.mp H
  obtain ⟨⟨t541, t542, t543⟩, A50, H⟩ := H
  try dsimp only at H
  have A5 := Aside0.mk A50
  clear A50
  have HC6 := Aside0.mk H
  clear H
  go_enter Try.func11, Try.ntmps11
  go_upto_region 6 with (first | ((with_reducible refine gate_callee (f := 33) rfl ?_); refine gL 15 Try.func33 #[.slice A0 l0.length c0] ?_; (with_reducible refine (spec_DrawExprSpan.calls k _ _ l0 t530 t531 t532 t533 _ ?side1 ?side2 A3.out).mono ?_); (case side1 => repeat (first | exact HR0.out | (with_reducible refine Kd.C_alloc ?_ _) | (with_reducible refine Kd.C_drewN ?_ _) | (with_reducible refine Kd.C_drew ?_))); (case side2 => exact HC0.out); rintro e w7 ⟨v534, rfl, ho0, hb⟩; refine ⟨_, rfl, ?_⟩; have HO535 := Aside0.mk (Kd.N_lower (Kd.N_mono (ok' := fun k_ => True) ho0 (fun k_ hk_ => trivial)) (below_size (hz0 HB))); replace HB := hbb (hz0 HB) hb; (try clear hb); (try clear hb2); (try clear hk); (try clear hi); (try clear ho0)) | ((with_reducible refine gate_dst (N := 3) rfl ?_); refine bE 3 #[.int .i64 0, .int .i64 0, .int .i64 0, .slice none 0 0] 25 ?_; intro gb536 hg w8 hbox hb; have BK536 := Aside0.mk (hbox); have GE536 := gw hg (hz0 HB); replace HO535 := Aside0.mk (Kd.N_below (Kd.N_elderB (by (with_reducible repeat (first | apply Kd.N_alloc | apply Kd.N_drewN | apply Kd.N_drew)); exact HO535.out) gb536 (Nat.le_of_eq hg.symm)) hb); replace HB := hbb (hz0 HB) hb; clear hb hbox hg; have hcz9_0 : w8.cell? ⟨gb536, 0, none⟩ = some (.int .i64 0) := (blk_cell BK536.out 0).trans rfl; have hcz9_1 : w8.cell? ⟨gb536, 1, none⟩ = some (.int .i64 0) := (blk_cell BK536.out 1).trans rfl; have hcz9_2 : w8.cell? ⟨gb536, 2, none⟩ = some (.int .i64 0) := (blk_cell BK536.out 2).trans rfl; have hcz9_3 : w8.cell? ⟨gb536, 3, none⟩ = some (.slice none 0 0) := (blk_cell BK536.out 3).trans rfl; have hfz9_0 := blk_frozen BK536.out 0; have hfz9_1 := blk_frozen BK536.out 1; have hfz9_2 := blk_frozen BK536.out 2; have hfz9_3 := blk_frozen BK536.out 3; obtain ⟨Ao10, co10, eo10⟩ := Kd.N_slice HO535.out; subst eo10) | ((with_reducible refine gate_callee (f := 31) rfl ?_); refine gL 18 Try.func31 #[.agg #[.int .i64 t530, .int .i64 t531, .int .i64 t532, .slice Ao10 t533.length co10]] ?_; (with_reducible refine (spec_ExprSpan.calls k t530 t531 t532 _ _ t533 t537 t538 t539 _ ?side1 ?side2 A4.out).mono ?_); (case side1 => refine (Kd.N_reads' (e := 25) (base := w.heap.size) (ok := fun k_ => (True ∧ k_ ≠ gb536)) (n := t533.length) (c := co10) ?_).2.2; exact (by (with_reducible repeat (first | apply Kd.N_alloc | apply Kd.N_drewN | apply Kd.N_drew)); exact (Kd.N_mono (Kd.N_far (p := ⟨gb536, 3, none⟩) (Kd.N_far (p := ⟨gb536, 2, none⟩) (Kd.N_far (p := ⟨gb536, 1, none⟩) (Kd.N_far (p := ⟨gb536, 0, none⟩) (Kd.N_mono HO535.out (fun k_ hk => (⟨hk, hk.2⟩ : _ ∧ k_ ≠ gb536))) (fun _ hk => hk.2) (.int .i64 t530)) (fun _ hk => hk.2) (.int .i64 t531)) (fun _ hk => hk.2) (.int .i64 t532)) (fun _ hk => hk.2) (.slice Ao10 t533.length co10)) (fun _ h_ => h_.1)))); (case side2 => exact (Kd.N_reads' HO535.out).2.1); rintro e w11 ⟨rfl, hb⟩; refine ⟨_, rfl, ?_⟩; replace HO535 := Aside0.mk (Kd.N_below (by (with_reducible repeat (first | apply Kd.N_alloc | apply Kd.N_drewN | apply Kd.N_drew)); exact (Kd.N_mono (Kd.N_far (p := ⟨gb536, 3, none⟩) (Kd.N_far (p := ⟨gb536, 2, none⟩) (Kd.N_far (p := ⟨gb536, 1, none⟩) (Kd.N_far (p := ⟨gb536, 0, none⟩) (Kd.N_mono HO535.out (fun k_ hk => (⟨hk, hk.2⟩ : _ ∧ k_ ≠ gb536))) (fun _ hk => hk.2) (.int .i64 t530)) (fun _ hk => hk.2) (.int .i64 t531)) (fun _ hk => hk.2) (.int .i64 t532)) (fun _ hk => hk.2) (.slice Ao10 t533.length co10)) (fun _ h_ => h_.1))) hb); replace BK536 := Aside0.mk (blk_below (g := gb536) (o := .cells #[.int .i64 t530, .int .i64 t531, .int .i64 t532, .slice Ao10 t533.length co10] 25 (0, 0)) (by (with_reducible repeat (first | refine blk_drewN ?_ _ | refine blk_drew ?_ | refine blk_alloc ?_ _)); refine blk_put (cs := #[.int .i64 t530, .int .i64 t531, .int .i64 t532, .slice none 0 0]) ?_ 3 _ rfl; (with_reducible repeat (first | refine blk_drewN ?_ _ | refine blk_drew ?_ | refine blk_alloc ?_ _)); refine blk_put (cs := #[.int .i64 t530, .int .i64 t531, .int .i64 0, .slice none 0 0]) ?_ 2 _ rfl; (with_reducible repeat (first | refine blk_drewN ?_ _ | refine blk_drew ?_ | refine blk_alloc ?_ _)); refine blk_put (cs := #[.int .i64 t530, .int .i64 0, .int .i64 0, .slice none 0 0]) ?_ 1 _ rfl; (with_reducible repeat (first | refine blk_drewN ?_ _ | refine blk_drew ?_ | refine blk_alloc ?_ _)); refine blk_put (cs := #[.int .i64 0, .int .i64 0, .int .i64 0, .slice none 0 0]) ?_ 0 _ rfl; (with_reducible repeat (first | refine blk_drewN ?_ _ | refine blk_drew ?_ | refine blk_alloc ?_ _)); exact BK536.out) hb); replace HB := hbb (hzs HB) hb; clear hb) | ((with_reducible refine gate_dst (N := 4) rfl ?_); refine bE 4 #[.int .i64 0, .int .i64 0] 31 ?_; intro gb540 hg w12 hbox hb; have BK540 := Aside0.mk (hbox); have GE540 := gw hg (hzs HB); have NB536_540 := nl hg (bk BK536); have NB540_536 := ng hg (bk BK536); replace HO535 := Aside0.mk (Kd.N_below (Kd.N_elderB (by (with_reducible repeat (first | apply Kd.N_alloc | apply Kd.N_drewN | apply Kd.N_drew)); exact HO535.out) gb540 (Nat.le_of_eq hg.symm)) hb); replace BK536 := bb (bk BK536) hb; replace HB := hbb (hzs HB) hb; clear hb hbox hg; have hnb13 := NB540_536.out; have hnc13 := NB536_540.out; obtain ⟨hcz14_0, hcz14_1, hfz14_0, hfz14_1⟩ := cz2 BK540; have hcz15_0 : w12.cell? ⟨gb536, 0, none⟩ = some (.int .i64 t530) := (blk_cell BK536.out 0).trans rfl; have hcz15_1 : w12.cell? ⟨gb536, 1, none⟩ = some (.int .i64 t531) := (blk_cell BK536.out 1).trans rfl; have hcz15_2 : w12.cell? ⟨gb536, 2, none⟩ = some (.int .i64 t532) := (blk_cell BK536.out 2).trans rfl; have hcz15_3 : w12.cell? ⟨gb536, 3, none⟩ = some (.slice Ao10 t533.length co10) := (blk_cell BK536.out 3).trans rfl; have hfz15_0 := blk_frozen BK536.out 0; have hfz15_1 := blk_frozen BK536.out 1; have hfz15_2 := blk_frozen BK536.out 2; have hfz15_3 := blk_frozen BK536.out 3) | ((with_reducible refine gate_callee (f := 18) rfl ?_); refine gL 23 Try.func18 #[.agg #[.int .i64 t530, .int .i64 t531, .int .i64 t532, .slice Ao10 t533.length co10]] ?_; (with_reducible refine (impl_ExprSpan.calls k t530 t531 t532 _ _ t533 t541 t542 t543 _ ?side1 ?side2 A5.out).mono ?_); (case side1 => refine (Kd.N_reads' (e := 25) (base := w.heap.size) (ok := fun k_ => ((True ∧ k_ ≠ gb536) ∧ k_ ≠ gb540)) (n := t533.length) (c := co10) ?_).2.2; exact (by (with_reducible repeat (first | apply Kd.N_alloc | apply Kd.N_drewN | apply Kd.N_drew)); exact (Kd.N_mono (Kd.N_far (p := ⟨gb540, 1, none⟩) (Kd.N_far (p := ⟨gb540, 0, none⟩) (Kd.N_mono HO535.out (fun k_ hk => (⟨hk, hk.2⟩ : _ ∧ k_ ≠ gb540))) (fun _ hk => hk.2) (.int .i64 t537)) (fun _ hk => hk.2) (.int .i64 t538)) (fun _ h_ => h_.1)))); (case side2 => exact (Kd.N_reads' HO535.out).2.1); rintro e w16 ⟨rfl, hb⟩; refine ⟨_, rfl, ?_⟩; replace HO535 := Aside0.mk (Kd.N_below (by (with_reducible repeat (first | apply Kd.N_alloc | apply Kd.N_drewN | apply Kd.N_drew)); exact (Kd.N_mono (Kd.N_far (p := ⟨gb540, 1, none⟩) (Kd.N_far (p := ⟨gb540, 0, none⟩) (Kd.N_mono HO535.out (fun k_ hk => (⟨hk, hk.2⟩ : _ ∧ k_ ≠ gb540))) (fun _ hk => hk.2) (.int .i64 t537)) (fun _ hk => hk.2) (.int .i64 t538)) (fun _ h_ => h_.1))) hb); replace BK536 := bb (bk1 BK536 NB536_540) hb; replace BK540 := bb (o := .cells #[.int .i64 t537, .int .i64 t538] 31 (0, 0)) (bkp BK540) hb; replace HB := hbb (hzs HB) hb; clear hb) | ((with_reducible refine gate_dst (N := 6) rfl ?_); refine bE 6 #[.int .i64 0, .int .i64 0] 31 ?_; intro gb544 hg w17 hbox hb; have BK544 := Aside0.mk (hbox); have GE544 := gw hg (hzs HB); have NB536_544 := nl hg (bk BK536); have NB544_536 := ng hg (bk BK536); have NB540_544 := nl hg (bk BK540); have NB544_540 := ng hg (bk BK540); replace HO535 := Aside0.mk (Kd.N_below (Kd.N_elderB (by (with_reducible repeat (first | apply Kd.N_alloc | apply Kd.N_drewN | apply Kd.N_drew)); exact HO535.out) gb544 (Nat.le_of_eq hg.symm)) hb); replace BK536 := bb (bk BK536) hb; replace BK540 := bb (bk BK540) hb; replace HB := hbb (hzs HB) hb; clear hb hbox hg; have hnb18 := NB544_536.out; have hnc18 := NB536_544.out; have hnb19 := NB544_540.out; have hnc19 := NB540_544.out; obtain ⟨hcz20_0, hcz20_1, hfz20_0, hfz20_1⟩ := cz2 BK544))
  (try simp only [Act.put, List.setIfInBounds_toArray, List.set_cons_zero, List.set_cons_succ])
  go_cut [37] (fun v37 wc => ∃ (kq : Nat) (x37_5 : Bool), v37 = .bool x37_5 ∧ Aside0 (laws_FnExprNeg.j0 kq t539 t543 x37_5 t530 t531 t532 t533 t537 t538 t541 t542 = some r) ∧ Aside0 (kq ≤ k) ∧ Aside0 (Kd.N k25 25 wc w.heap.size (fun k_ => k_ ≠ gb536 ∧ k_ ≠ gb540 ∧ k_ ≠ gb544) (.slice Ao10 t533.length co10) t533) ∧ Aside0 (wc.heap[gb536]? = some (.cells #[.int .i64 t530, .int .i64 t531, .int .i64 t532, (.slice Ao10 t533.length co10)] 25 (0, 0))) ∧ Aside0 (wc.heap[gb540]? = some (.cells #[.int .i64 t537, .int .i64 t538] 31 (0, 0))) ∧ Aside0 (wc.heap[gb544]? = some (.cells #[.int .i64 t541, .int .i64 t542] 31 (0, 0))) ∧ Aside0 (Below w.heap.size w wc))
  case first =>
   have H := HC6.out
   clear HC6
   by_cases c21 : (t543 != t539) = true
   ·rw [if_pos c21] at H
    have c21b0 : (t543 != t539) = true := c21
    (try (have c21b1 : decide (t543 = t539) = false := by simpa using c21))
    (try (have c21b2 : (t543 == t539) = false := by simpa using c21))
    (try (have c21b3 : ¬ (t543 = t539) := by simpa using c21))
    clear c21
    (first | rw [c21b0] | (simp only [i64_w, i32_w]; rw [c21b0]) | skip)
    have H' := Aside0.mk H
    clear H
    go_wp2
    go_meet
    case rel => exact ⟨_, (true), (by first | rfl | (simp; done) | (simp [*]; done)), H', ⟨by first | omega | exact Nat.le_refl _⟩, ⟨by (with_reducible repeat (first | apply Kd.N_alloc | apply Kd.N_drewN | apply Kd.N_drew)); exact Kd.N_mono (Kd.N_far (p := ⟨gb544, 1, none⟩) (Kd.N_far (p := ⟨gb544, 0, none⟩) (Kd.N_mono HO535.out (fun k_ hk => (⟨hk, hk.2⟩ : _ ∧ k_ ≠ gb544))) (fun _ hk => hk.2) (.int .i64 t541)) (fun _ hk => hk.2) (.int .i64 t542)) (fun _ hk => ⟨hk.1.1.1.2, ⟨hk.1.1.2, hk.1.2⟩⟩)⟩, ⟨bk1 BK536 NB536_544⟩, ⟨bk1 BK540 NB540_544⟩, ⟨bkp BK544⟩, ⟨hzs HB⟩⟩
   ·rw [if_neg c21] at H
    have c21b0 : (t543 != t539) = false := by simpa using c21
    (try (have c21b1 : decide (t543 = t539) = true := by simpa using c21))
    (try (have c21b2 : (t543 == t539) = true := by simpa using c21))
    clear c21
    (first | rw [c21b0] | (simp only [i64_w, i32_w]; rw [c21b0]) | skip)
    by_cases c22 : (!(t541 == t537) || (!(t542 == t538))) = true
    ·rw [if_pos c22] at H
     have c22b0 : (!(t541 == t537) || (!(t542 == t538))) = true := c22
     clear c22
     have H' := Aside0.mk H
     clear H
     have hnb23 := NB544_536.out
     have hnc23 := NB536_544.out
     have hnb24 := NB544_540.out
     have hnc24 := NB540_544.out
     obtain ⟨hcz25_0, hcz25_1, hfz25_0, hfz25_1⟩ := cz2 BK544
     have hnb26 := NB540_536.out
     have hnc26 := NB536_540.out
     obtain ⟨hcz27_0, hcz27_1, hfz27_0, hfz27_1⟩ := cz2 BK540
     go_wp2
     go_meet
     case rel => exact ⟨_, (true), (by first | rfl | (simp; done) | (simp [*]; done)), H', ⟨by first | omega | exact Nat.le_refl _⟩, ⟨by (with_reducible repeat (first | apply Kd.N_alloc | apply Kd.N_drewN | apply Kd.N_drew)); exact Kd.N_mono (Kd.N_far (p := ⟨gb544, 1, none⟩) (Kd.N_far (p := ⟨gb544, 0, none⟩) (Kd.N_mono HO535.out (fun k_ hk => (⟨hk, hk.2⟩ : _ ∧ k_ ≠ gb544))) (fun _ hk => hk.2) (.int .i64 t541)) (fun _ hk => hk.2) (.int .i64 t542)) (fun _ hk => ⟨hk.1.1.1.2, ⟨hk.1.1.2, hk.1.2⟩⟩)⟩, ⟨bk1 BK536 NB536_544⟩, ⟨bk1 BK540 NB540_544⟩, ⟨bkp BK544⟩, ⟨hzs HB⟩⟩
    ·rw [if_neg c22] at H
     have c22b0 : (!(t541 == t537) || (!(t542 == t538))) = false := by simpa using c22
     clear c22
     have H' := Aside0.mk H
     clear H
     have hnb28 := NB544_536.out
     have hnc28 := NB536_544.out
     have hnb29 := NB544_540.out
     have hnc29 := NB540_544.out
     obtain ⟨hcz30_0, hcz30_1, hfz30_0, hfz30_1⟩ := cz2 BK544
     have hnb31 := NB540_536.out
     have hnc31 := NB536_540.out
     obtain ⟨hcz32_0, hcz32_1, hfz32_0, hfz32_1⟩ := cz2 BK540
     go_wp2
     go_meet
     case rel => exact ⟨_, (!t543), (by first | rfl | (simp; done) | (simp [*]; done)), H', ⟨by first | omega | exact Nat.le_refl _⟩, ⟨by (with_reducible repeat (first | apply Kd.N_alloc | apply Kd.N_drewN | apply Kd.N_drew)); exact Kd.N_mono (Kd.N_far (p := ⟨gb544, 1, none⟩) (Kd.N_far (p := ⟨gb544, 0, none⟩) (Kd.N_mono HO535.out (fun k_ hk => (⟨hk, hk.2⟩ : _ ∧ k_ ≠ gb544))) (fun _ hk => hk.2) (.int .i64 t541)) (fun _ hk => hk.2) (.int .i64 t542)) (fun _ hk => ⟨hk.1.1.1.2, ⟨hk.1.1.2, hk.1.2⟩⟩)⟩, ⟨bk1 BK536 NB536_544⟩, ⟨bk1 BK540 NB540_544⟩, ⟨bkp BK544⟩, ⟨hzs HB⟩⟩
  case rest =>
   clear HC6
   try clear c1
   try clear c2
   try clear c2b0
   try clear c2b1
   try clear p2
   try clear c3
   try clear c11
   try clear c13
   try clear c18
   try clear c19
   try clear c21
   try clear c21b0
   try clear c21b1
   try clear c21b2
   try clear c22
   try clear c22b0
   try clear c23
   try clear c24
   try clear c26
   try clear c28
   try clear c29
   try clear c31
   try clear hcz14_0 hcz14_1
   try clear hcz15_0 hcz15_1 hcz15_2 hcz15_3
   try clear hcz20_0 hcz20_1
   try clear hcz25_0 hcz25_1
   try clear hcz27_0 hcz27_1
   try clear hcz30_0 hcz30_1
   try clear hcz32_0 hcz32_1
   try clear hcz9_0 hcz9_1 hcz9_2 hcz9_3
   try clear hfz14_0 hfz14_1
   try clear hfz15_0 hfz15_1 hfz15_2 hfz15_3
   try clear hfz20_0 hfz20_1
   try clear hfz25_0 hfz25_1
   try clear hfz27_0 hfz27_1
   try clear hfz30_0 hfz30_1
   try clear hfz32_0 hfz32_1
   try clear hfz9_0 hfz9_1 hfz9_2 hfz9_3
   obtain ⟨kq, x37_5, rfl, HA, HJ5, HO_537003, BK536, BK540, BK544, HB⟩ := hcut
   cases kq with
   | zero => exact absurd HA.out (by simp [laws_FnExprNeg.j0])
   | succ kj5 =>
    have H := HA.out
    clear HA
    simp only [laws_FnExprNeg.j0] at H
    by_cases c33 : x37_5 = true
    ·subst c33
     have H1 : (if (t543 == t539) = true then (some (t541 == t537 && (t542 == t538))) else (some false)) = some r := by rw [if_pos rfl] at H; exact H
     clear H
     have H := H1
     clear H1
     by_cases c34 : (t543 == t539) = true
     ·rw [if_pos c34] at H
      have c34b0 : (t543 == t539) = true := c34
      (try (have c34b1 : decide (t543 = t539) = true := by simpa using c34))
      (try (have c34b2 : (t543 == t539) = true := by simpa using c34))
      clear c34
      obtain rfl := Option.some.inj H
      have hnb35 := NB544_536.out
      have hnc35 := NB536_544.out
      have hnb36 := NB544_540.out
      have hnc36 := NB540_544.out
      obtain ⟨hcz37_0, hcz37_1, hfz37_0, hfz37_1⟩ := cz2 BK544
      have hnb38 := NB540_536.out
      have hnc38 := NB536_540.out
      obtain ⟨hcz39_0, hcz39_1, hfz39_0, hfz39_1⟩ := cz2 BK540
      go_wp2
      go_ret
      exact ⟨by first | rfl | (simp [errW_none, errW_some] <;> rfl) | (simp [*, errW_none, errW_some] <;> rfl), hzs HB⟩
     ·rw [if_neg c34] at H
      have c34b0 : (t543 == t539) = false := by simpa using c34
      (try (have c34b1 : decide (t543 = t539) = false := by simpa using c34))
      (try (have c34b2 : (t543 == t539) = false := by simpa using c34))
      (try (have c34b3 : ¬ (t543 = t539) := by simpa using c34))
      clear c34
      obtain rfl := Option.some.inj H
      go_wp2
      go_ret
      exact ⟨by first | rfl | (simp [errW_none, errW_some] <;> rfl) | (simp [*, errW_none, errW_some] <;> rfl), hzs HB⟩
    ·replace c33 := Bool.eq_false_iff.mpr c33
     subst c33
     have H1 : ((some (([(⟨t530, t531, t532, t533⟩ : S25)] : List (S25)) : List (S25))).bind fun y545 => ((impl_ExprSpan.f kj5 2 0 0 y545).bind fun bt549 => ((impl_ExprOk.f kj5 2 0 0 y545).bind fun t553 => (if t553 = true then (if bt549.2.2 = true then ((impl_SpanNeg.f t541 t542).bind fun bt554 => (some (bt549.1 == bt554.1 && (bt549.2.1 == bt554.2)))) else (some false)) else (some true))))) = some r := by rw [if_neg (show ¬ (false = true) by decide)] at H; exact H
     clear H
     have H := H1
     clear H1
     obtain ⟨y545, hy545⟩ : ∃ y_ : List (S25), y_ = (([(⟨t530, t531, t532, t533⟩ : S25)] : List (S25))) := ⟨_, rfl⟩
     replace H : ((impl_ExprSpan.f kj5 2 0 0 y545).bind fun bt549 => ((impl_ExprOk.f kj5 2 0 0 y545).bind fun t553 => (if t553 = true then (if bt549.2.2 = true then ((impl_SpanNeg.f t541 t542).bind fun bt554 => (some (bt549.1 == bt554.1 && (bt549.2.1 == bt554.2)))) else (some false)) else (some true)))) = some r := by first | (rw [hy545]; with_reducible exact H) | (have H2_ := (Option.bind_some _ _).symm.trans H; rw [hy545]; with_reducible exact H2_) | (have H2_ := (Option.bind_some _ _).symm.trans H; with_reducible exact H2_) | with_reducible exact H | (rw [hy545]; exact H) | exact H
     have Ny545 := Aside0.mk hy545
     clear hy545
     replace H := Option.bind_eq_some_iff.mp H
     obtain ⟨⟨t549, t550, t551⟩, A400, H⟩ := H
     try dsimp only at H
     have A40 := Aside0.mk A400
     clear A400
     replace H := Option.bind_eq_some_iff.mp H
     obtain ⟨t553, A410, H⟩ := H
     try dsimp only at H
     have A41 := Aside0.mk A410
     clear A410
     by_cases c42 : t553 = true
     ·subst c42
      have H1 : (if t551 = true then ((impl_SpanNeg.f t541 t542).bind fun bt554 => (some (t549 == bt554.1 && (t550 == bt554.2)))) else (some false)) = some r := by rw [if_pos rfl] at H; exact H
      clear H
      have H := H1
      clear H1
      by_cases c43 : t551 = true
      ·subst c43
       have H1 : ((impl_SpanNeg.f t541 t542).bind fun bt554 => (some (t549 == bt554.1 && (t550 == bt554.2)))) = some r := by rw [if_pos rfl] at H; exact H
       clear H
       have H := H1
       clear H1
       replace H := Option.bind_eq_some_iff.mp H
       obtain ⟨⟨t554, t555⟩, A440, H⟩ := H
       try dsimp only at H
       have A44 := Aside0.mk A440
       clear A440
       obtain rfl := Option.some.inj H
       have hnb45 := NB536_540.out
       have hnc45 := NB540_536.out
       have hnb46 := NB536_544.out
       have hnc46 := NB544_536.out
       have hcz47_0 : wc.cell? ⟨gb536, 0, none⟩ = some (.int .i64 t530) := (blk_cell BK536.out 0).trans rfl
       have hcz47_1 : wc.cell? ⟨gb536, 1, none⟩ = some (.int .i64 t531) := (blk_cell BK536.out 1).trans rfl
       have hcz47_2 : wc.cell? ⟨gb536, 2, none⟩ = some (.int .i64 t532) := (blk_cell BK536.out 2).trans rfl
       have hcz47_3 : wc.cell? ⟨gb536, 3, none⟩ = some (.slice Ao10 t533.length co10) := (blk_cell BK536.out 3).trans rfl
       have hfz47_0 := blk_frozen BK536.out 0
       have hfz47_1 := blk_frozen BK536.out 1
       have hfz47_2 := blk_frozen BK536.out 2
       have hfz47_3 := blk_frozen BK536.out 3
       try go_wp2_with (first | ((with_reducible refine gate_dst (N := 47) rfl ?_); refine Kd.N_lit k25 _ 25 ?hg (N' := 47) ?hd (xs := ([(⟨t530, t531, t532, t533⟩ : S25)] : List (S25))) (inner := [.int .i64 t530, .int .i64 t531, .int .i64 t532, .slice Ao10 t533.length co10]) (ok := (fun k_ => k_ ≠ gb536 ∧ k_ ≠ gb540 ∧ k_ ≠ gb544)) (okp := (fun k_ => k_ ≠ gb536 ∧ k_ ≠ gb540 ∧ k_ ≠ gb544)) ?hr ?hp (fun _ hk => hk) ((show ∀ k_, wc.heap.size ≤ k_ → (fun k_ => k_ ≠ gb536 ∧ k_ ≠ gb540 ∧ k_ ≠ gb544) k_ from fun k_ hk => ⟨Kd.freshB (g := gb536) (o := .cells #[.int .i64 t530, .int .i64 t531, .int .i64 t532, .slice Ao10 t533.length co10] 25 (0, 0)) (bk BK536) k_ hk, Kd.freshB (g := gb540) (o := .cells #[.int .i64 t537, .int .i64 t538] 31 (0, 0)) (bk BK540) k_ hk, Kd.freshB (g := gb544) (o := .cells #[.int .i64 t541, .int .i64 t542] 31 (0, 0)) (bk BK544) k_ hk⟩) _ (Nat.le_refl _)) (Below.refl _ _) (Nat.le_refl _) (by simp) ?_; (case hd => rfl); (case hg => rfl); (case hr => first | (go_simp; done) | (go_simp; rfl)); (case hp => exact (Reps.c4 (show Kd.FK k25 _ _ (⟨t530, t531, t532, t533⟩ : S25) [.int .i64 t530, .int .i64 t531, .int .i64 t532, .slice Ao10 t533.length co10] from (k25_mkF _ _ (⟨t530, t531, t532, t533⟩ : S25) (Kd.N_reads' (Kd.N_mono (ok' := (fun k_ => k_ ≠ gb536 ∧ k_ ≠ gb540 ∧ k_ ≠ gb544)) (HO_537003.out) (fun k_ hk => ⟨hk.1, ⟨hk.2.1, hk.2.2⟩⟩))).2.1 (Kd.N_F (Kd.N_mono (ok' := (fun k_ => k_ ≠ gb536 ∧ k_ ≠ gb540 ∧ k_ ≠ gb544)) (HO_537003.out) (fun k_ hk => ⟨hk.1, ⟨hk.2.1, hk.2.2⟩⟩))))) (Reps.none _ _))); intro v546 w48 ho49 hb hg_ hnew_; clear hg_ hnew_; (first | rw [← Ny545.out] at ho49 | (simp only [Int.reduceToNat] at ho49; rw [← Ny545.out] at ho49)); have n0_ := Aside0.mk (Kd.N_lower ho49 (below_size (hzs HB))); have n1_ := bb (bk BK536) hb; have n2_ := bb (bk BK540) hb; have n3_ := bb (bk BK544) hb; have n4_ := hbb (hzs HB) hb; clear BK536; clear BK540; clear BK544; clear HB; clear HO_537003; have HO547 := n0_; have BK536 := n1_; have BK540 := n2_; have BK544 := n3_; have HB := n4_; clear n0_ n1_ n2_ n3_ n4_; clear hb ho49; obtain ⟨Ao50, co50, eo50⟩ := Kd.N_slice HO547.out; subst eo50) | ((with_reducible refine gate_dst (N := 8) rfl ?_); refine bE 8 #[.int .i64 0, .int .i64 0, .int .i64 0, .slice none 0 0] 25 ?_; intro gb548 hg w51 hbox hb; have BK548 := Aside0.mk (hbox); have GE548 := gw hg (hzs HB); have GW548 := GE548; have NB536_548 := nl hg (bk BK536); have NB548_536 := ng hg (bk BK536); have NB540_548 := nl hg (bk BK540); have NB548_540 := ng hg (bk BK540); have NB544_548 := nl hg (bk BK544); have NB548_544 := ng hg (bk BK544); replace HO547 := Aside0.mk (Kd.N_below (Kd.N_elderB (by (with_reducible repeat (first | apply Kd.N_alloc | apply Kd.N_drewN | apply Kd.N_drew)); exact HO547.out) gb548 (Nat.le_of_eq hg.symm)) hb); replace BK536 := bb (bk BK536) hb; replace BK540 := bb (bk BK540) hb; replace BK544 := bb (bk BK544) hb; replace HB := hbb (hzs HB) hb; clear hb hbox hg; have hnb52 := NB548_536.out; have hnc52 := NB536_548.out; have hnb53 := NB548_540.out; have hnc53 := NB540_548.out; have hnb54 := NB548_544.out; have hnc54 := NB544_548.out; have hcz55_0 : w51.cell? ⟨gb548, 0, none⟩ = some (.int .i64 0) := (blk_cell BK548.out 0).trans rfl; have hcz55_1 : w51.cell? ⟨gb548, 1, none⟩ = some (.int .i64 0) := (blk_cell BK548.out 1).trans rfl; have hcz55_2 : w51.cell? ⟨gb548, 2, none⟩ = some (.int .i64 0) := (blk_cell BK548.out 2).trans rfl; have hcz55_3 : w51.cell? ⟨gb548, 3, none⟩ = some (.slice none 0 0) := (blk_cell BK548.out 3).trans rfl; have hfz55_0 := blk_frozen BK548.out 0; have hfz55_1 := blk_frozen BK548.out 1; have hfz55_2 := blk_frozen BK548.out 2; have hfz55_3 := blk_frozen BK548.out 3) | ((with_reducible refine gate_callee (f := 18) rfl ?_); refine gL 51 Try.func18 #[.agg #[.int .i64 2, .int .i64 0, .int .i64 0, .slice Ao50 y545.length co50]] ?_; (with_reducible refine (impl_ExprSpan.calls kj5 2 0 0 _ _ y545 t549 t550 true _ ?side1 ?side2 A40.out).mono ?_); (case side1 => refine (Kd.N_reads' (e := 25) (base := w.heap.size) (ok := fun k_ => ((k_ ≠ gb536 ∧ (k_ ≠ gb540 ∧ k_ ≠ gb544)) ∧ k_ ≠ gb548)) (n := y545.length) (c := co50) ?_).2.2; exact (by (with_reducible repeat (first | apply Kd.N_alloc | apply Kd.N_drewN | apply Kd.N_drew)); exact (Kd.N_mono (Kd.N_far (p := ⟨gb548, 3, none⟩) (Kd.N_far (p := ⟨gb548, 2, none⟩) (Kd.N_far (p := ⟨gb548, 1, none⟩) (Kd.N_far (p := ⟨gb548, 0, none⟩) (Kd.N_mono HO547.out (fun k_ hk => (⟨hk, hk.2⟩ : _ ∧ k_ ≠ gb548))) (fun _ hk => hk.2) (.int .i64 2)) (fun _ hk => hk.2) (.int .i64 0)) (fun _ hk => hk.2) (.int .i64 0)) (fun _ hk => hk.2) (.slice Ao50 y545.length co50)) (fun _ h_ => h_.1)))); (case side2 => exact (Kd.N_reads' HO547.out).2.1); rintro e w56 ⟨rfl, hb⟩; refine ⟨_, rfl, ?_⟩; replace HO547 := Aside0.mk (Kd.N_below (by (with_reducible repeat (first | apply Kd.N_alloc | apply Kd.N_drewN | apply Kd.N_drew)); exact (Kd.N_mono (Kd.N_far (p := ⟨gb548, 3, none⟩) (Kd.N_far (p := ⟨gb548, 2, none⟩) (Kd.N_far (p := ⟨gb548, 1, none⟩) (Kd.N_far (p := ⟨gb548, 0, none⟩) (Kd.N_mono HO547.out (fun k_ hk => (⟨hk, hk.2⟩ : _ ∧ k_ ≠ gb548))) (fun _ hk => hk.2) (.int .i64 2)) (fun _ hk => hk.2) (.int .i64 0)) (fun _ hk => hk.2) (.int .i64 0)) (fun _ hk => hk.2) (.slice Ao50 y545.length co50)) (fun _ h_ => h_.1))) hb); replace BK536 := bb (bk1 BK536 NB536_548) hb; replace BK540 := bb (bk1 BK540 NB540_548) hb; replace BK544 := bb (bk1 BK544 NB544_548) hb; replace BK548 := Aside0.mk (blk_below (g := gb548) (o := .cells #[.int .i64 2, .int .i64 0, .int .i64 0, .slice Ao50 y545.length co50] 25 (0, 0)) (by (with_reducible repeat (first | refine blk_drewN ?_ _ | refine blk_drew ?_ | refine blk_alloc ?_ _)); refine blk_put (cs := #[.int .i64 2, .int .i64 0, .int .i64 0, .slice none 0 0]) ?_ 3 _ rfl; (with_reducible repeat (first | refine blk_drewN ?_ _ | refine blk_drew ?_ | refine blk_alloc ?_ _)); refine blk_put (cs := #[.int .i64 2, .int .i64 0, .int .i64 0, .slice none 0 0]) ?_ 2 _ rfl; (with_reducible repeat (first | refine blk_drewN ?_ _ | refine blk_drew ?_ | refine blk_alloc ?_ _)); refine blk_put (cs := #[.int .i64 2, .int .i64 0, .int .i64 0, .slice none 0 0]) ?_ 1 _ rfl; (with_reducible repeat (first | refine blk_drewN ?_ _ | refine blk_drew ?_ | refine blk_alloc ?_ _)); refine blk_put (cs := #[.int .i64 0, .int .i64 0, .int .i64 0, .slice none 0 0]) ?_ 0 _ rfl; (with_reducible repeat (first | refine blk_drewN ?_ _ | refine blk_drew ?_ | refine blk_alloc ?_ _)); exact BK548.out) hb); replace HB := hbb (hzs HB) hb; clear hb) | ((with_reducible refine gate_dst (N := 9) rfl ?_); refine bE 9 #[.int .i64 0, .int .i64 0] 31 ?_; intro gb552 hg w57 hbox hb; have BK552 := Aside0.mk (hbox); have GE552 := gw hg (hzs HB); have GW552 := GE552; have NB536_552 := nl hg (bk BK536); have NB552_536 := ng hg (bk BK536); have NB540_552 := nl hg (bk BK540); have NB552_540 := ng hg (bk BK540); have NB544_552 := nl hg (bk BK544); have NB552_544 := ng hg (bk BK544); have NB548_552 := nl hg (bk BK548); have NB552_548 := ng hg (bk BK548); replace HO547 := Aside0.mk (Kd.N_below (Kd.N_elderB (by (with_reducible repeat (first | apply Kd.N_alloc | apply Kd.N_drewN | apply Kd.N_drew)); exact HO547.out) gb552 (Nat.le_of_eq hg.symm)) hb); replace BK536 := bb (bk BK536) hb; replace BK540 := bb (bk BK540) hb; replace BK544 := bb (bk BK544) hb; replace BK548 := bb (bk BK548) hb; replace HB := hbb (hzs HB) hb; clear hb hbox hg; have hnb58 := NB552_536.out; have hnc58 := NB536_552.out; have hnb59 := NB552_540.out; have hnc59 := NB540_552.out; have hnb60 := NB552_544.out; have hnc60 := NB544_552.out; have hnb61 := NB552_548.out; have hnc61 := NB548_552.out; obtain ⟨hcz62_0, hcz62_1, hfz62_0, hfz62_1⟩ := cz2 BK552))
       have n0_ : Aside0 (Kd.N k25 25 ((w57.setCell ⟨gb552, 0, none⟩ (.int .i64 t549)).setCell ⟨gb552, 1, none⟩ (.int .i64 t550)) w.heap.size (fun k_ => k_ ≠ gb536 ∧ k_ ≠ gb540 ∧ k_ ≠ gb544 ∧ k_ ≠ gb548 ∧ k_ ≠ gb552) (.slice Ao50 y545.length co50) y545) := ⟨by (with_reducible repeat (first | apply Kd.N_alloc | apply Kd.N_drewN | apply Kd.N_drew)); exact Kd.N_mono (Kd.N_far (p := ⟨gb552, 1, none⟩) (Kd.N_far (p := ⟨gb552, 0, none⟩) (Kd.N_mono HO547.out (fun k_ hk => (⟨hk, hk.2⟩ : _ ∧ k_ ≠ gb552))) (fun _ hk => hk.2) (.int .i64 t549)) (fun _ hk => hk.2) (.int .i64 t550)) (fun _ hk => ⟨hk.1.1.1.1, ⟨hk.1.1.1.2.1, ⟨hk.1.1.1.2.2, ⟨hk.1.1.2, hk.1.2⟩⟩⟩⟩)⟩
       have n1_ : Aside0 (((w57.setCell ⟨gb552, 0, none⟩ (.int .i64 t549)).setCell ⟨gb552, 1, none⟩ (.int .i64 t550)).heap[gb536]? = some (.cells #[.int .i64 t530, .int .i64 t531, .int .i64 t532, .slice Ao10 t533.length co10] 25 (0, 0))) := ⟨bk1 BK536 NB536_552⟩
       have n2_ : Aside0 (((w57.setCell ⟨gb552, 0, none⟩ (.int .i64 t549)).setCell ⟨gb552, 1, none⟩ (.int .i64 t550)).heap[gb540]? = some (.cells #[.int .i64 t537, .int .i64 t538] 31 (0, 0))) := ⟨bk1 BK540 NB540_552⟩
       have n3_ : Aside0 (((w57.setCell ⟨gb552, 0, none⟩ (.int .i64 t549)).setCell ⟨gb552, 1, none⟩ (.int .i64 t550)).heap[gb544]? = some (.cells #[.int .i64 t541, .int .i64 t542] 31 (0, 0))) := ⟨bk1 BK544 NB544_552⟩
       have n4_ : Aside0 (((w57.setCell ⟨gb552, 0, none⟩ (.int .i64 t549)).setCell ⟨gb552, 1, none⟩ (.int .i64 t550)).heap[gb548]? = some (.cells #[.int .i64 2, .int .i64 0, .int .i64 0, .slice Ao50 y545.length co50] 25 (0, 0))) := ⟨bk1 BK548 NB548_552⟩
       have n5_ : Aside0 (((w57.setCell ⟨gb552, 0, none⟩ (.int .i64 t549)).setCell ⟨gb552, 1, none⟩ (.int .i64 t550)).heap[gb552]? = some (.cells #[.int .i64 t549, .int .i64 t550] 31 (0, 0))) := ⟨bkp BK552⟩
       have n6_ : Aside0 (Below w.heap.size w ((w57.setCell ⟨gb552, 0, none⟩ (.int .i64 t549)).setCell ⟨gb552, 1, none⟩ (.int .i64 t550))) := ⟨hzs HB⟩
       (try clear HO547)
       (try clear BK536)
       (try clear BK540)
       (try clear BK544)
       (try clear BK548)
       (try clear BK552)
       (try clear HB)
       generalize ((w57.setCell ⟨gb552, 0, none⟩ (.int .i64 t549)).setCell ⟨gb552, 1, none⟩ (.int .i64 t550)) = w63 at n0_ n1_ n2_ n3_ n4_ n5_ n6_ ⊢
       have HO547 := n0_
       have BK536 := n1_
       have BK540 := n2_
       have BK544 := n3_
       have BK548 := n4_
       have BK552 := n5_
       have HB := n6_
       clear n0_ n1_ n2_ n3_ n4_ n5_ n6_
       replace HO547 := Aside0.mk (Kd.N_drew HO547.out)
       replace BK536 := Aside0.mk (blk_drew BK536.out)
       replace BK540 := Aside0.mk (blk_drew BK540.out)
       replace BK544 := Aside0.mk (blk_drew BK544.out)
       replace BK548 := Aside0.mk (blk_drew BK548.out)
       replace BK552 := Aside0.mk (blk_drew BK552.out)
       replace HB := Aside0.mk (below_drew1 HB.out)
       refine start_ (n := 13) (S := fun w' => w'.cell? ⟨gb548, 0, none⟩ = some (.int .i64 2) ∧ w'.cell? ⟨gb548, 1, none⟩ = some (.int .i64 0) ∧ w'.cell? ⟨gb548, 2, none⟩ = some (.int .i64 0) ∧ w'.cell? ⟨gb548, 3, none⟩ = some (.slice Ao50 y545.length co50) ∧ w'.cell? ⟨gb552, 0, none⟩ = some (.int .i64 t549) ∧ w'.cell? ⟨gb552, 1, none⟩ = some (.int .i64 t550) ∧ w'.cell? ⟨gb544, 0, none⟩ = some (.int .i64 t541) ∧ w'.cell? ⟨gb544, 1, none⟩ = some (.int .i64 t542)) (ds := []) #[false, false, false, false, false, false, false, false, false, false, false, false, false] (by kernel_rfl) rfl rfl ⟨cw0 BK548, cw1 BK548, (blk_cell BK548.out 2).trans rfl, (blk_cell BK548.out 3).trans rfl, cw0 BK552, cw1 BK552, cw0 BK544, cw1 BK544⟩ (fun hHeld => ?_); refine with_tabW laws_FnExprNeg.tab10 laws_FnExprNeg.bits10 (fun HT_ HW_ => ?_)
       generalize w63.drew = w64 at HO547 BK536 BK540 BK544 BK548 BK552 HB hHeld ⊢
       refine take_ (i := 0) (N := some 54) (v := ?_) (a' := ?_) #[true, false, false, false, false, false, false, false, false, false, false, false, false] rfl rfl (take_ofW HT_.out HW_.out (by kernel_rfl)) (fun _ _ _ h => h) (Or.inl ⟨by rfl, ?_⟩) hHeld ?_ ?_
       rotate_left
       ·rintro w' ⟨s0, s1, s2, s3, s4, s5, s6, s7⟩
        go_simp
        with_reducible rfl
       rotate_left
       ·simp only [Act.put, List.setIfInBounds_toArray, List.set_cons_zero, List.set_cons_succ, i64_w, i32_w]
        rfl
       refine oN 1 55 #[true, true, false, false, false, false, false, false, false, false, false, false, false] HT_ (fun K hK => ?_)
       refine gS Try.func23 #[.agg #[.int .i64 2, .int .i64 0, .int .i64 0, .slice Ao50 y545.length co50]] ?_
       with_reducible refine (impl_ExprOk.calls kj5 2 0 0 _ _ y545 true _ ?side1 ?side2 A41.out).mono ?_
       (case side1 => repeat (first | exact (Kd.N_reads' HO547.out).2.2 | (with_reducible refine Kd.C_alloc ?_ _) | (with_reducible refine Kd.C_drewN ?_ _) | (with_reducible refine Kd.C_drew ?_)))
       (case side2 => exact (Kd.N_reads' HO547.out).2.1)
       rintro e w65 ⟨rfl, hb⟩
       refine ⟨_, rfl, ?_⟩
       replace HO547 := Aside0.mk (Kd.N_below (by (with_reducible repeat (first | apply Kd.N_alloc | apply Kd.N_drewN | apply Kd.N_drew)); exact HO547.out) hb)
       replace BK536 := bb (bk BK536) hb
       replace BK540 := bb (bk BK540) hb
       replace BK544 := bb (bk BK544) hb
       replace BK548 := bb (bk BK548) hb
       replace BK552 := bb (bk BK552) hb
       replace HB := hbb (hzs HB) hb
       clear hb
       refine hK.out _ _ ⟨cw0 BK548, cw1 BK548, (blk_cell BK548.out 2).trans rfl, (blk_cell BK548.out 3).trans rfl, cw0 BK552, cw1 BK552, cw0 BK544, cw1 BK544⟩ (fun hHeld => ?_)
       clear hK K
       refine nP ?_
       refine pU 2 56 #[true, true, true, false, false, false, false, false, false, false, false, false, false] HT_ ?_
       refine pU 3 57 #[true, true, true, true, false, false, false, false, false, false, false, false, false] HT_ ?_
       refine pU 4 58 #[true, true, true, true, true, false, false, false, false, false, false, false, false] HT_ ?_
       refine pU 5 59 #[true, true, true, true, true, true, false, false, false, false, false, false, false] HT_ ?_
       refine take_ (i := 6) (N := some 60) (v := ?_) (a' := ?_) #[true, true, true, true, true, true, true, false, false, false, false, false, false] rfl rfl (take_ofW HT_.out HW_.out (by kernel_rfl)) (fun _ _ _ h => h) (Or.inl ⟨by rfl, ?_⟩) hHeld ?_ ?_
       rotate_left
       ·rintro w' ⟨s0, s1, s2, s3, s4, s5, s6, s7⟩
        go_simp
        with_reducible rfl
       rotate_left
       ·simp only [Act.put, List.setIfInBounds_toArray, List.set_cons_zero, List.set_cons_succ, i64_w, i32_w]
        rfl
       refine take_ (i := 7) (N := some 61) (v := ?_) (a' := ?_) #[true, true, true, true, true, true, true, true, false, false, false, false, false] rfl rfl (take_ofW HT_.out HW_.out (by kernel_rfl)) (fun _ _ _ h => h) (Or.inl ⟨by rfl, ?_⟩) hHeld ?_ ?_
       rotate_left
       ·rintro w' ⟨s0, s1, s2, s3, s4, s5, s6, s7⟩
        go_simp
        with_reducible rfl
       rotate_left
       ·simp only [Act.put, List.setIfInBounds_toArray, List.set_cons_zero, List.set_cons_succ, i64_w, i32_w]
        rfl
       refine oN 8 62 #[true, true, true, true, true, true, true, true, true, false, false, false, false] HT_ (fun K hK => ?_)
       refine gS Try.func34 #[.agg #[.int .i64 t541, .int .i64 t542]] ?_
       with_reducible refine (impl_SpanNeg.calls t541 t542 t554 t555 _ A44.out).mono ?_
       rintro e w66 ⟨rfl, hb⟩
       refine ⟨_, rfl, ?_⟩
       replace HO547 := Aside0.mk (Kd.N_below (by (with_reducible repeat (first | apply Kd.N_alloc | apply Kd.N_drewN | apply Kd.N_drew)); exact HO547.out) hb)
       replace BK536 := bb (bk BK536) hb
       replace BK540 := bb (bk BK540) hb
       replace BK544 := bb (bk BK544) hb
       replace BK548 := bb (bk BK548) hb
       replace BK552 := bb (bk BK552) hb
       replace HB := hbb (hzs HB) hb
       clear hb
       refine hK.out _ _ ⟨cw0 BK548, cw1 BK548, (blk_cell BK548.out 2).trans rfl, (blk_cell BK548.out 3).trans rfl, cw0 BK552, cw1 BK552, cw0 BK544, cw1 BK544⟩ (fun hHeld => ?_)
       clear hK K
       refine nP ?_
       refine pU 9 63 #[true, true, true, true, true, true, true, true, true, true, false, false, false] HT_ ?_
       refine pU 10 64 #[true, true, true, true, true, true, true, true, true, true, true, false, false] HT_ ?_
       refine pU 11 65 #[true, true, true, true, true, true, true, true, true, true, true, true, false] HT_ ?_
       refine pU 12 2 #[true, true, true, true, true, true, true, true, true, true, true, true, true] HT_ ?_
       refine done_ (done_of HT_.out (by kernel_rfl)) ?_
       try go_wp2
       go_ret
       exact ⟨by first | rfl | (simp [errW_none, errW_some] <;> rfl) | (simp [*, errW_none, errW_some] <;> rfl), hzs HB⟩
      ·replace c43 := Bool.eq_false_iff.mpr c43
       subst c43
       have H1 : (some false) = some r := by rw [if_neg (show ¬ (false = true) by decide)] at H; exact H
       clear H
       have H := H1
       clear H1
       obtain rfl := Option.some.inj H
       have hnb67 := NB536_540.out
       have hnc67 := NB540_536.out
       have hnb68 := NB536_544.out
       have hnc68 := NB544_536.out
       have hcz69_0 : wc.cell? ⟨gb536, 0, none⟩ = some (.int .i64 t530) := (blk_cell BK536.out 0).trans rfl
       have hcz69_1 : wc.cell? ⟨gb536, 1, none⟩ = some (.int .i64 t531) := (blk_cell BK536.out 1).trans rfl
       have hcz69_2 : wc.cell? ⟨gb536, 2, none⟩ = some (.int .i64 t532) := (blk_cell BK536.out 2).trans rfl
       have hcz69_3 : wc.cell? ⟨gb536, 3, none⟩ = some (.slice Ao10 t533.length co10) := (blk_cell BK536.out 3).trans rfl
       have hfz69_0 := blk_frozen BK536.out 0
       have hfz69_1 := blk_frozen BK536.out 1
       have hfz69_2 := blk_frozen BK536.out 2
       have hfz69_3 := blk_frozen BK536.out 3
       try go_wp2_with (first | ((with_reducible refine gate_dst (N := 47) rfl ?_); refine Kd.N_lit k25 _ 25 ?hg (N' := 47) ?hd (xs := ([(⟨t530, t531, t532, t533⟩ : S25)] : List (S25))) (inner := [.int .i64 t530, .int .i64 t531, .int .i64 t532, .slice Ao10 t533.length co10]) (ok := (fun k_ => k_ ≠ gb536 ∧ k_ ≠ gb540 ∧ k_ ≠ gb544)) (okp := (fun k_ => k_ ≠ gb536 ∧ k_ ≠ gb540 ∧ k_ ≠ gb544)) ?hr ?hp (fun _ hk => hk) ((show ∀ k_, wc.heap.size ≤ k_ → (fun k_ => k_ ≠ gb536 ∧ k_ ≠ gb540 ∧ k_ ≠ gb544) k_ from fun k_ hk => ⟨Kd.freshB (g := gb536) (o := .cells #[.int .i64 t530, .int .i64 t531, .int .i64 t532, .slice Ao10 t533.length co10] 25 (0, 0)) (bk BK536) k_ hk, Kd.freshB (g := gb540) (o := .cells #[.int .i64 t537, .int .i64 t538] 31 (0, 0)) (bk BK540) k_ hk, Kd.freshB (g := gb544) (o := .cells #[.int .i64 t541, .int .i64 t542] 31 (0, 0)) (bk BK544) k_ hk⟩) _ (Nat.le_refl _)) (Below.refl _ _) (Nat.le_refl _) (by simp) ?_; (case hd => rfl); (case hg => rfl); (case hr => first | (go_simp; done) | (go_simp; rfl)); (case hp => exact (Reps.c4 (show Kd.FK k25 _ _ (⟨t530, t531, t532, t533⟩ : S25) [.int .i64 t530, .int .i64 t531, .int .i64 t532, .slice Ao10 t533.length co10] from (k25_mkF _ _ (⟨t530, t531, t532, t533⟩ : S25) (Kd.N_reads' (Kd.N_mono (ok' := (fun k_ => k_ ≠ gb536 ∧ k_ ≠ gb540 ∧ k_ ≠ gb544)) (HO_537003.out) (fun k_ hk => ⟨hk.1, ⟨hk.2.1, hk.2.2⟩⟩))).2.1 (Kd.N_F (Kd.N_mono (ok' := (fun k_ => k_ ≠ gb536 ∧ k_ ≠ gb540 ∧ k_ ≠ gb544)) (HO_537003.out) (fun k_ hk => ⟨hk.1, ⟨hk.2.1, hk.2.2⟩⟩))))) (Reps.none _ _))); intro v546 w70 ho71 hb hg_ hnew_; clear hg_ hnew_; (first | rw [← Ny545.out] at ho71 | (simp only [Int.reduceToNat] at ho71; rw [← Ny545.out] at ho71)); have n0_ := Aside0.mk (Kd.N_lower ho71 (below_size (hzs HB))); have n1_ := bb (bk BK536) hb; have n2_ := bb (bk BK540) hb; have n3_ := bb (bk BK544) hb; have n4_ := hbb (hzs HB) hb; clear BK536; clear BK540; clear BK544; clear HB; clear HO_537003; have HO547 := n0_; have BK536 := n1_; have BK540 := n2_; have BK544 := n3_; have HB := n4_; clear n0_ n1_ n2_ n3_ n4_; clear hb ho71; obtain ⟨Ao72, co72, eo72⟩ := Kd.N_slice HO547.out; subst eo72) | ((with_reducible refine gate_dst (N := 8) rfl ?_); refine bE 8 #[.int .i64 0, .int .i64 0, .int .i64 0, .slice none 0 0] 25 ?_; intro gb548 hg w73 hbox hb; have BK548 := Aside0.mk (hbox); have GE548 := gw hg (hzs HB); have GW548 := GE548; have NB536_548 := nl hg (bk BK536); have NB548_536 := ng hg (bk BK536); have NB540_548 := nl hg (bk BK540); have NB548_540 := ng hg (bk BK540); have NB544_548 := nl hg (bk BK544); have NB548_544 := ng hg (bk BK544); replace HO547 := Aside0.mk (Kd.N_below (Kd.N_elderB (by (with_reducible repeat (first | apply Kd.N_alloc | apply Kd.N_drewN | apply Kd.N_drew)); exact HO547.out) gb548 (Nat.le_of_eq hg.symm)) hb); replace BK536 := bb (bk BK536) hb; replace BK540 := bb (bk BK540) hb; replace BK544 := bb (bk BK544) hb; replace HB := hbb (hzs HB) hb; clear hb hbox hg; have hnb74 := NB548_536.out; have hnc74 := NB536_548.out; have hnb75 := NB548_540.out; have hnc75 := NB540_548.out; have hnb76 := NB548_544.out; have hnc76 := NB544_548.out; have hcz77_0 : w73.cell? ⟨gb548, 0, none⟩ = some (.int .i64 0) := (blk_cell BK548.out 0).trans rfl; have hcz77_1 : w73.cell? ⟨gb548, 1, none⟩ = some (.int .i64 0) := (blk_cell BK548.out 1).trans rfl; have hcz77_2 : w73.cell? ⟨gb548, 2, none⟩ = some (.int .i64 0) := (blk_cell BK548.out 2).trans rfl; have hcz77_3 : w73.cell? ⟨gb548, 3, none⟩ = some (.slice none 0 0) := (blk_cell BK548.out 3).trans rfl; have hfz77_0 := blk_frozen BK548.out 0; have hfz77_1 := blk_frozen BK548.out 1; have hfz77_2 := blk_frozen BK548.out 2; have hfz77_3 := blk_frozen BK548.out 3) | ((with_reducible refine gate_callee (f := 18) rfl ?_); refine gL 51 Try.func18 #[.agg #[.int .i64 2, .int .i64 0, .int .i64 0, .slice Ao72 y545.length co72]] ?_; (with_reducible refine (impl_ExprSpan.calls kj5 2 0 0 _ _ y545 t549 t550 false _ ?side1 ?side2 A40.out).mono ?_); (case side1 => refine (Kd.N_reads' (e := 25) (base := w.heap.size) (ok := fun k_ => ((k_ ≠ gb536 ∧ (k_ ≠ gb540 ∧ k_ ≠ gb544)) ∧ k_ ≠ gb548)) (n := y545.length) (c := co72) ?_).2.2; exact (by (with_reducible repeat (first | apply Kd.N_alloc | apply Kd.N_drewN | apply Kd.N_drew)); exact (Kd.N_mono (Kd.N_far (p := ⟨gb548, 3, none⟩) (Kd.N_far (p := ⟨gb548, 2, none⟩) (Kd.N_far (p := ⟨gb548, 1, none⟩) (Kd.N_far (p := ⟨gb548, 0, none⟩) (Kd.N_mono HO547.out (fun k_ hk => (⟨hk, hk.2⟩ : _ ∧ k_ ≠ gb548))) (fun _ hk => hk.2) (.int .i64 2)) (fun _ hk => hk.2) (.int .i64 0)) (fun _ hk => hk.2) (.int .i64 0)) (fun _ hk => hk.2) (.slice Ao72 y545.length co72)) (fun _ h_ => h_.1)))); (case side2 => exact (Kd.N_reads' HO547.out).2.1); rintro e w78 ⟨rfl, hb⟩; refine ⟨_, rfl, ?_⟩; replace HO547 := Aside0.mk (Kd.N_below (by (with_reducible repeat (first | apply Kd.N_alloc | apply Kd.N_drewN | apply Kd.N_drew)); exact (Kd.N_mono (Kd.N_far (p := ⟨gb548, 3, none⟩) (Kd.N_far (p := ⟨gb548, 2, none⟩) (Kd.N_far (p := ⟨gb548, 1, none⟩) (Kd.N_far (p := ⟨gb548, 0, none⟩) (Kd.N_mono HO547.out (fun k_ hk => (⟨hk, hk.2⟩ : _ ∧ k_ ≠ gb548))) (fun _ hk => hk.2) (.int .i64 2)) (fun _ hk => hk.2) (.int .i64 0)) (fun _ hk => hk.2) (.int .i64 0)) (fun _ hk => hk.2) (.slice Ao72 y545.length co72)) (fun _ h_ => h_.1))) hb); replace BK536 := bb (bk1 BK536 NB536_548) hb; replace BK540 := bb (bk1 BK540 NB540_548) hb; replace BK544 := bb (bk1 BK544 NB544_548) hb; replace BK548 := Aside0.mk (blk_below (g := gb548) (o := .cells #[.int .i64 2, .int .i64 0, .int .i64 0, .slice Ao72 y545.length co72] 25 (0, 0)) (by (with_reducible repeat (first | refine blk_drewN ?_ _ | refine blk_drew ?_ | refine blk_alloc ?_ _)); refine blk_put (cs := #[.int .i64 2, .int .i64 0, .int .i64 0, .slice none 0 0]) ?_ 3 _ rfl; (with_reducible repeat (first | refine blk_drewN ?_ _ | refine blk_drew ?_ | refine blk_alloc ?_ _)); refine blk_put (cs := #[.int .i64 2, .int .i64 0, .int .i64 0, .slice none 0 0]) ?_ 2 _ rfl; (with_reducible repeat (first | refine blk_drewN ?_ _ | refine blk_drew ?_ | refine blk_alloc ?_ _)); refine blk_put (cs := #[.int .i64 2, .int .i64 0, .int .i64 0, .slice none 0 0]) ?_ 1 _ rfl; (with_reducible repeat (first | refine blk_drewN ?_ _ | refine blk_drew ?_ | refine blk_alloc ?_ _)); refine blk_put (cs := #[.int .i64 0, .int .i64 0, .int .i64 0, .slice none 0 0]) ?_ 0 _ rfl; (with_reducible repeat (first | refine blk_drewN ?_ _ | refine blk_drew ?_ | refine blk_alloc ?_ _)); exact BK548.out) hb); replace HB := hbb (hzs HB) hb; clear hb) | ((with_reducible refine gate_dst (N := 9) rfl ?_); refine bE 9 #[.int .i64 0, .int .i64 0] 31 ?_; intro gb552 hg w79 hbox hb; have BK552 := Aside0.mk (hbox); have GE552 := gw hg (hzs HB); have GW552 := GE552; have NB536_552 := nl hg (bk BK536); have NB552_536 := ng hg (bk BK536); have NB540_552 := nl hg (bk BK540); have NB552_540 := ng hg (bk BK540); have NB544_552 := nl hg (bk BK544); have NB552_544 := ng hg (bk BK544); have NB548_552 := nl hg (bk BK548); have NB552_548 := ng hg (bk BK548); replace HO547 := Aside0.mk (Kd.N_below (Kd.N_elderB (by (with_reducible repeat (first | apply Kd.N_alloc | apply Kd.N_drewN | apply Kd.N_drew)); exact HO547.out) gb552 (Nat.le_of_eq hg.symm)) hb); replace BK536 := bb (bk BK536) hb; replace BK540 := bb (bk BK540) hb; replace BK544 := bb (bk BK544) hb; replace BK548 := bb (bk BK548) hb; replace HB := hbb (hzs HB) hb; clear hb hbox hg; have hnb80 := NB552_536.out; have hnc80 := NB536_552.out; have hnb81 := NB552_540.out; have hnc81 := NB540_552.out; have hnb82 := NB552_544.out; have hnc82 := NB544_552.out; have hnb83 := NB552_548.out; have hnc83 := NB548_552.out; obtain ⟨hcz84_0, hcz84_1, hfz84_0, hfz84_1⟩ := cz2 BK552))
       have n0_ : Aside0 (Kd.N k25 25 ((w79.setCell ⟨gb552, 0, none⟩ (.int .i64 t549)).setCell ⟨gb552, 1, none⟩ (.int .i64 t550)) w.heap.size (fun k_ => k_ ≠ gb536 ∧ k_ ≠ gb540 ∧ k_ ≠ gb544 ∧ k_ ≠ gb548 ∧ k_ ≠ gb552) (.slice Ao72 y545.length co72) y545) := ⟨by (with_reducible repeat (first | apply Kd.N_alloc | apply Kd.N_drewN | apply Kd.N_drew)); exact Kd.N_mono (Kd.N_far (p := ⟨gb552, 1, none⟩) (Kd.N_far (p := ⟨gb552, 0, none⟩) (Kd.N_mono HO547.out (fun k_ hk => (⟨hk, hk.2⟩ : _ ∧ k_ ≠ gb552))) (fun _ hk => hk.2) (.int .i64 t549)) (fun _ hk => hk.2) (.int .i64 t550)) (fun _ hk => ⟨hk.1.1.1.1, ⟨hk.1.1.1.2.1, ⟨hk.1.1.1.2.2, ⟨hk.1.1.2, hk.1.2⟩⟩⟩⟩)⟩
       have n1_ : Aside0 (((w79.setCell ⟨gb552, 0, none⟩ (.int .i64 t549)).setCell ⟨gb552, 1, none⟩ (.int .i64 t550)).heap[gb536]? = some (.cells #[.int .i64 t530, .int .i64 t531, .int .i64 t532, .slice Ao10 t533.length co10] 25 (0, 0))) := ⟨bk1 BK536 NB536_552⟩
       have n2_ : Aside0 (((w79.setCell ⟨gb552, 0, none⟩ (.int .i64 t549)).setCell ⟨gb552, 1, none⟩ (.int .i64 t550)).heap[gb540]? = some (.cells #[.int .i64 t537, .int .i64 t538] 31 (0, 0))) := ⟨bk1 BK540 NB540_552⟩
       have n3_ : Aside0 (((w79.setCell ⟨gb552, 0, none⟩ (.int .i64 t549)).setCell ⟨gb552, 1, none⟩ (.int .i64 t550)).heap[gb544]? = some (.cells #[.int .i64 t541, .int .i64 t542] 31 (0, 0))) := ⟨bk1 BK544 NB544_552⟩
       have n4_ : Aside0 (((w79.setCell ⟨gb552, 0, none⟩ (.int .i64 t549)).setCell ⟨gb552, 1, none⟩ (.int .i64 t550)).heap[gb548]? = some (.cells #[.int .i64 2, .int .i64 0, .int .i64 0, .slice Ao72 y545.length co72] 25 (0, 0))) := ⟨bk1 BK548 NB548_552⟩
       have n5_ : Aside0 (((w79.setCell ⟨gb552, 0, none⟩ (.int .i64 t549)).setCell ⟨gb552, 1, none⟩ (.int .i64 t550)).heap[gb552]? = some (.cells #[.int .i64 t549, .int .i64 t550] 31 (0, 0))) := ⟨bkp BK552⟩
       have n6_ : Aside0 (Below w.heap.size w ((w79.setCell ⟨gb552, 0, none⟩ (.int .i64 t549)).setCell ⟨gb552, 1, none⟩ (.int .i64 t550))) := ⟨hzs HB⟩
       (try clear HO547)
       (try clear BK536)
       (try clear BK540)
       (try clear BK544)
       (try clear BK548)
       (try clear BK552)
       (try clear HB)
       generalize ((w79.setCell ⟨gb552, 0, none⟩ (.int .i64 t549)).setCell ⟨gb552, 1, none⟩ (.int .i64 t550)) = w85 at n0_ n1_ n2_ n3_ n4_ n5_ n6_ ⊢
       have HO547 := n0_
       have BK536 := n1_
       have BK540 := n2_
       have BK544 := n3_
       have BK548 := n4_
       have BK552 := n5_
       have HB := n6_
       clear n0_ n1_ n2_ n3_ n4_ n5_ n6_
       replace HO547 := Aside0.mk (Kd.N_drew HO547.out)
       replace BK536 := Aside0.mk (blk_drew BK536.out)
       replace BK540 := Aside0.mk (blk_drew BK540.out)
       replace BK544 := Aside0.mk (blk_drew BK544.out)
       replace BK548 := Aside0.mk (blk_drew BK548.out)
       replace BK552 := Aside0.mk (blk_drew BK552.out)
       replace HB := Aside0.mk (below_drew1 HB.out)
       refine start_ (n := 13) (S := fun w' => w'.cell? ⟨gb548, 0, none⟩ = some (.int .i64 2) ∧ w'.cell? ⟨gb548, 1, none⟩ = some (.int .i64 0) ∧ w'.cell? ⟨gb548, 2, none⟩ = some (.int .i64 0) ∧ w'.cell? ⟨gb548, 3, none⟩ = some (.slice Ao72 y545.length co72)) (ds := []) #[false, false, false, false, false, false, false, false, false, false, false, false, false] (by kernel_rfl) rfl rfl ⟨cw0 BK548, cw1 BK548, (blk_cell BK548.out 2).trans rfl, (blk_cell BK548.out 3).trans rfl⟩ (fun hHeld => ?_); refine with_tabW laws_FnExprNeg.tab10 laws_FnExprNeg.bits10 (fun HT_ HW_ => ?_)
       generalize w85.drew = w86 at HO547 BK536 BK540 BK544 BK548 BK552 HB hHeld ⊢
       refine take_ (i := 0) (N := some 54) (v := ?_) (a' := ?_) #[true, false, false, false, false, false, false, false, false, false, false, false, false] rfl rfl (take_ofW HT_.out HW_.out (by kernel_rfl)) (fun _ _ _ h => h) (Or.inl ⟨by rfl, ?_⟩) hHeld ?_ ?_
       rotate_left
       ·rintro w' ⟨s0, s1, s2, s3⟩
        go_simp
        with_reducible rfl
       rotate_left
       ·simp only [Act.put, List.setIfInBounds_toArray, List.set_cons_zero, List.set_cons_succ, i64_w, i32_w]
        rfl
       refine oN 1 55 #[true, true, false, false, false, false, false, false, false, false, false, false, false] HT_ (fun K hK => ?_)
       refine gS Try.func23 #[.agg #[.int .i64 2, .int .i64 0, .int .i64 0, .slice Ao72 y545.length co72]] ?_
       with_reducible refine (impl_ExprOk.calls kj5 2 0 0 _ _ y545 true _ ?side1 ?side2 A41.out).mono ?_
       (case side1 => repeat (first | exact (Kd.N_reads' HO547.out).2.2 | (with_reducible refine Kd.C_alloc ?_ _) | (with_reducible refine Kd.C_drewN ?_ _) | (with_reducible refine Kd.C_drew ?_)))
       (case side2 => exact (Kd.N_reads' HO547.out).2.1)
       rintro e w87 ⟨rfl, hb⟩
       refine ⟨_, rfl, ?_⟩
       replace HO547 := Aside0.mk (Kd.N_below (by (with_reducible repeat (first | apply Kd.N_alloc | apply Kd.N_drewN | apply Kd.N_drew)); exact HO547.out) hb)
       replace BK536 := bb (bk BK536) hb
       replace BK540 := bb (bk BK540) hb
       replace BK544 := bb (bk BK544) hb
       replace BK548 := bb (bk BK548) hb
       replace BK552 := bb (bk BK552) hb
       replace HB := hbb (hzs HB) hb
       clear hb
       refine hK.out _ _ ⟨cw0 BK548, cw1 BK548, (blk_cell BK548.out 2).trans rfl, (blk_cell BK548.out 3).trans rfl⟩ (fun hHeld => ?_)
       clear hK K
       refine nP ?_
       refine pU 2 56 #[true, true, true, false, false, false, false, false, false, false, false, false, false] HT_ ?_
       refine pU 3 57 #[true, true, true, true, false, false, false, false, false, false, false, false, false] HT_ ?_
       refine pU 4 58 #[true, true, true, true, true, false, false, false, false, false, false, false, false] HT_ ?_
       refine pU 5 59 #[true, true, true, true, true, true, false, false, false, false, false, false, false] HT_ ?_
       refine pure_ (i := 6) (N := some 60) (v := undef) (a' := ?_) #[true, true, true, true, true, true, true, false, false, false, false, false, false] rfl rfl (any_of HT_.out (by kernel_rfl)) (fun _ _ _ h => h) (Or.inr ⟨by rfl, rfl⟩) ?_ ?_
       rotate_left
       ·simp only [Act.put, List.setIfInBounds_toArray, List.set_cons_zero, List.set_cons_succ, i64_w, i32_w]
        rfl
       refine pure_ (i := 7) (N := some 61) (v := undef) (a' := ?_) #[true, true, true, true, true, true, true, true, false, false, false, false, false] rfl rfl (any_of HT_.out (by kernel_rfl)) (fun _ _ _ h => h) (Or.inr ⟨by rfl, rfl⟩) ?_ ?_
       rotate_left
       ·simp only [Act.put, List.setIfInBounds_toArray, List.set_cons_zero, List.set_cons_succ, i64_w, i32_w]
        rfl
       refine pure_ (i := 8) (N := some 62) (v := undef) (a' := ?_) #[true, true, true, true, true, true, true, true, true, false, false, false, false] rfl rfl (any_of HT_.out (by kernel_rfl)) (fun _ _ _ h => h) (Or.inr ⟨by rfl, rfl⟩) ?_ ?_
       rotate_left
       ·simp only [Act.put, List.setIfInBounds_toArray, List.set_cons_zero, List.set_cons_succ, i64_w, i32_w]
        rfl
       refine pure_ (i := 9) (N := some 63) (v := undef) (a' := ?_) #[true, true, true, true, true, true, true, true, true, true, false, false, false] rfl rfl (any_of HT_.out (by kernel_rfl)) (fun _ _ _ h => h) (Or.inr ⟨by rfl, rfl⟩) ?_ ?_
       rotate_left
       ·simp only [Act.put, List.setIfInBounds_toArray, List.set_cons_zero, List.set_cons_succ, i64_w, i32_w]
        rfl
       refine pU 10 64 #[true, true, true, true, true, true, true, true, true, true, true, false, false] HT_ ?_
       refine pU 11 65 #[true, true, true, true, true, true, true, true, true, true, true, true, false] HT_ ?_
       refine pU 12 2 #[true, true, true, true, true, true, true, true, true, true, true, true, true] HT_ ?_
       refine done_ (done_of HT_.out (by kernel_rfl)) ?_
       try go_wp2
       go_ret
       exact ⟨by first | rfl | (simp [errW_none, errW_some] <;> rfl) | (simp [*, errW_none, errW_some] <;> rfl), hzs HB⟩
     ·replace c42 := Bool.eq_false_iff.mpr c42
      subst c42
      have H1 : (some true) = some r := by rw [if_neg (show ¬ (false = true) by decide)] at H; exact H
      clear H
      have H := H1
      clear H1
      obtain rfl := Option.some.inj H
      have hnb88 := NB536_540.out
      have hnc88 := NB540_536.out
      have hnb89 := NB536_544.out
      have hnc89 := NB544_536.out
      have hcz90_0 : wc.cell? ⟨gb536, 0, none⟩ = some (.int .i64 t530) := (blk_cell BK536.out 0).trans rfl
      have hcz90_1 : wc.cell? ⟨gb536, 1, none⟩ = some (.int .i64 t531) := (blk_cell BK536.out 1).trans rfl
      have hcz90_2 : wc.cell? ⟨gb536, 2, none⟩ = some (.int .i64 t532) := (blk_cell BK536.out 2).trans rfl
      have hcz90_3 : wc.cell? ⟨gb536, 3, none⟩ = some (.slice Ao10 t533.length co10) := (blk_cell BK536.out 3).trans rfl
      have hfz90_0 := blk_frozen BK536.out 0
      have hfz90_1 := blk_frozen BK536.out 1
      have hfz90_2 := blk_frozen BK536.out 2
      have hfz90_3 := blk_frozen BK536.out 3
      try go_wp2_with (first | ((with_reducible refine gate_dst (N := 47) rfl ?_); refine Kd.N_lit k25 _ 25 ?hg (N' := 47) ?hd (xs := ([(⟨t530, t531, t532, t533⟩ : S25)] : List (S25))) (inner := [.int .i64 t530, .int .i64 t531, .int .i64 t532, .slice Ao10 t533.length co10]) (ok := (fun k_ => k_ ≠ gb536 ∧ k_ ≠ gb540 ∧ k_ ≠ gb544)) (okp := (fun k_ => k_ ≠ gb536 ∧ k_ ≠ gb540 ∧ k_ ≠ gb544)) ?hr ?hp (fun _ hk => hk) ((show ∀ k_, wc.heap.size ≤ k_ → (fun k_ => k_ ≠ gb536 ∧ k_ ≠ gb540 ∧ k_ ≠ gb544) k_ from fun k_ hk => ⟨Kd.freshB (g := gb536) (o := .cells #[.int .i64 t530, .int .i64 t531, .int .i64 t532, .slice Ao10 t533.length co10] 25 (0, 0)) (bk BK536) k_ hk, Kd.freshB (g := gb540) (o := .cells #[.int .i64 t537, .int .i64 t538] 31 (0, 0)) (bk BK540) k_ hk, Kd.freshB (g := gb544) (o := .cells #[.int .i64 t541, .int .i64 t542] 31 (0, 0)) (bk BK544) k_ hk⟩) _ (Nat.le_refl _)) (Below.refl _ _) (Nat.le_refl _) (by simp) ?_; (case hd => rfl); (case hg => rfl); (case hr => first | (go_simp; done) | (go_simp; rfl)); (case hp => exact (Reps.c4 (show Kd.FK k25 _ _ (⟨t530, t531, t532, t533⟩ : S25) [.int .i64 t530, .int .i64 t531, .int .i64 t532, .slice Ao10 t533.length co10] from (k25_mkF _ _ (⟨t530, t531, t532, t533⟩ : S25) (Kd.N_reads' (Kd.N_mono (ok' := (fun k_ => k_ ≠ gb536 ∧ k_ ≠ gb540 ∧ k_ ≠ gb544)) (HO_537003.out) (fun k_ hk => ⟨hk.1, ⟨hk.2.1, hk.2.2⟩⟩))).2.1 (Kd.N_F (Kd.N_mono (ok' := (fun k_ => k_ ≠ gb536 ∧ k_ ≠ gb540 ∧ k_ ≠ gb544)) (HO_537003.out) (fun k_ hk => ⟨hk.1, ⟨hk.2.1, hk.2.2⟩⟩))))) (Reps.none _ _))); intro v546 w91 ho92 hb hg_ hnew_; clear hg_ hnew_; (first | rw [← Ny545.out] at ho92 | (simp only [Int.reduceToNat] at ho92; rw [← Ny545.out] at ho92)); have n0_ := Aside0.mk (Kd.N_lower ho92 (below_size (hzs HB))); have n1_ := bb (bk BK536) hb; have n2_ := bb (bk BK540) hb; have n3_ := bb (bk BK544) hb; have n4_ := hbb (hzs HB) hb; clear BK536; clear BK540; clear BK544; clear HB; clear HO_537003; have HO547 := n0_; have BK536 := n1_; have BK540 := n2_; have BK544 := n3_; have HB := n4_; clear n0_ n1_ n2_ n3_ n4_; clear hb ho92; obtain ⟨Ao93, co93, eo93⟩ := Kd.N_slice HO547.out; subst eo93) | ((with_reducible refine gate_dst (N := 8) rfl ?_); refine bE 8 #[.int .i64 0, .int .i64 0, .int .i64 0, .slice none 0 0] 25 ?_; intro gb548 hg w94 hbox hb; have BK548 := Aside0.mk (hbox); have GE548 := gw hg (hzs HB); have GW548 := GE548; have NB536_548 := nl hg (bk BK536); have NB548_536 := ng hg (bk BK536); have NB540_548 := nl hg (bk BK540); have NB548_540 := ng hg (bk BK540); have NB544_548 := nl hg (bk BK544); have NB548_544 := ng hg (bk BK544); replace HO547 := Aside0.mk (Kd.N_below (Kd.N_elderB (by (with_reducible repeat (first | apply Kd.N_alloc | apply Kd.N_drewN | apply Kd.N_drew)); exact HO547.out) gb548 (Nat.le_of_eq hg.symm)) hb); replace BK536 := bb (bk BK536) hb; replace BK540 := bb (bk BK540) hb; replace BK544 := bb (bk BK544) hb; replace HB := hbb (hzs HB) hb; clear hb hbox hg; have hnb95 := NB548_536.out; have hnc95 := NB536_548.out; have hnb96 := NB548_540.out; have hnc96 := NB540_548.out; have hnb97 := NB548_544.out; have hnc97 := NB544_548.out; have hcz98_0 : w94.cell? ⟨gb548, 0, none⟩ = some (.int .i64 0) := (blk_cell BK548.out 0).trans rfl; have hcz98_1 : w94.cell? ⟨gb548, 1, none⟩ = some (.int .i64 0) := (blk_cell BK548.out 1).trans rfl; have hcz98_2 : w94.cell? ⟨gb548, 2, none⟩ = some (.int .i64 0) := (blk_cell BK548.out 2).trans rfl; have hcz98_3 : w94.cell? ⟨gb548, 3, none⟩ = some (.slice none 0 0) := (blk_cell BK548.out 3).trans rfl; have hfz98_0 := blk_frozen BK548.out 0; have hfz98_1 := blk_frozen BK548.out 1; have hfz98_2 := blk_frozen BK548.out 2; have hfz98_3 := blk_frozen BK548.out 3) | ((with_reducible refine gate_callee (f := 18) rfl ?_); refine gL 51 Try.func18 #[.agg #[.int .i64 2, .int .i64 0, .int .i64 0, .slice Ao93 y545.length co93]] ?_; (with_reducible refine (impl_ExprSpan.calls kj5 2 0 0 _ _ y545 t549 t550 t551 _ ?side1 ?side2 A40.out).mono ?_); (case side1 => refine (Kd.N_reads' (e := 25) (base := w.heap.size) (ok := fun k_ => ((k_ ≠ gb536 ∧ (k_ ≠ gb540 ∧ k_ ≠ gb544)) ∧ k_ ≠ gb548)) (n := y545.length) (c := co93) ?_).2.2; exact (by (with_reducible repeat (first | apply Kd.N_alloc | apply Kd.N_drewN | apply Kd.N_drew)); exact (Kd.N_mono (Kd.N_far (p := ⟨gb548, 3, none⟩) (Kd.N_far (p := ⟨gb548, 2, none⟩) (Kd.N_far (p := ⟨gb548, 1, none⟩) (Kd.N_far (p := ⟨gb548, 0, none⟩) (Kd.N_mono HO547.out (fun k_ hk => (⟨hk, hk.2⟩ : _ ∧ k_ ≠ gb548))) (fun _ hk => hk.2) (.int .i64 2)) (fun _ hk => hk.2) (.int .i64 0)) (fun _ hk => hk.2) (.int .i64 0)) (fun _ hk => hk.2) (.slice Ao93 y545.length co93)) (fun _ h_ => h_.1)))); (case side2 => exact (Kd.N_reads' HO547.out).2.1); rintro e w99 ⟨rfl, hb⟩; refine ⟨_, rfl, ?_⟩; replace HO547 := Aside0.mk (Kd.N_below (by (with_reducible repeat (first | apply Kd.N_alloc | apply Kd.N_drewN | apply Kd.N_drew)); exact (Kd.N_mono (Kd.N_far (p := ⟨gb548, 3, none⟩) (Kd.N_far (p := ⟨gb548, 2, none⟩) (Kd.N_far (p := ⟨gb548, 1, none⟩) (Kd.N_far (p := ⟨gb548, 0, none⟩) (Kd.N_mono HO547.out (fun k_ hk => (⟨hk, hk.2⟩ : _ ∧ k_ ≠ gb548))) (fun _ hk => hk.2) (.int .i64 2)) (fun _ hk => hk.2) (.int .i64 0)) (fun _ hk => hk.2) (.int .i64 0)) (fun _ hk => hk.2) (.slice Ao93 y545.length co93)) (fun _ h_ => h_.1))) hb); replace BK536 := bb (bk1 BK536 NB536_548) hb; replace BK540 := bb (bk1 BK540 NB540_548) hb; replace BK544 := bb (bk1 BK544 NB544_548) hb; replace BK548 := Aside0.mk (blk_below (g := gb548) (o := .cells #[.int .i64 2, .int .i64 0, .int .i64 0, .slice Ao93 y545.length co93] 25 (0, 0)) (by (with_reducible repeat (first | refine blk_drewN ?_ _ | refine blk_drew ?_ | refine blk_alloc ?_ _)); refine blk_put (cs := #[.int .i64 2, .int .i64 0, .int .i64 0, .slice none 0 0]) ?_ 3 _ rfl; (with_reducible repeat (first | refine blk_drewN ?_ _ | refine blk_drew ?_ | refine blk_alloc ?_ _)); refine blk_put (cs := #[.int .i64 2, .int .i64 0, .int .i64 0, .slice none 0 0]) ?_ 2 _ rfl; (with_reducible repeat (first | refine blk_drewN ?_ _ | refine blk_drew ?_ | refine blk_alloc ?_ _)); refine blk_put (cs := #[.int .i64 2, .int .i64 0, .int .i64 0, .slice none 0 0]) ?_ 1 _ rfl; (with_reducible repeat (first | refine blk_drewN ?_ _ | refine blk_drew ?_ | refine blk_alloc ?_ _)); refine blk_put (cs := #[.int .i64 0, .int .i64 0, .int .i64 0, .slice none 0 0]) ?_ 0 _ rfl; (with_reducible repeat (first | refine blk_drewN ?_ _ | refine blk_drew ?_ | refine blk_alloc ?_ _)); exact BK548.out) hb); replace HB := hbb (hzs HB) hb; clear hb) | ((with_reducible refine gate_dst (N := 9) rfl ?_); refine bE 9 #[.int .i64 0, .int .i64 0] 31 ?_; intro gb552 hg w100 hbox hb; have BK552 := Aside0.mk (hbox); have GE552 := gw hg (hzs HB); have GW552 := GE552; have NB536_552 := nl hg (bk BK536); have NB552_536 := ng hg (bk BK536); have NB540_552 := nl hg (bk BK540); have NB552_540 := ng hg (bk BK540); have NB544_552 := nl hg (bk BK544); have NB552_544 := ng hg (bk BK544); have NB548_552 := nl hg (bk BK548); have NB552_548 := ng hg (bk BK548); replace HO547 := Aside0.mk (Kd.N_below (Kd.N_elderB (by (with_reducible repeat (first | apply Kd.N_alloc | apply Kd.N_drewN | apply Kd.N_drew)); exact HO547.out) gb552 (Nat.le_of_eq hg.symm)) hb); replace BK536 := bb (bk BK536) hb; replace BK540 := bb (bk BK540) hb; replace BK544 := bb (bk BK544) hb; replace BK548 := bb (bk BK548) hb; replace HB := hbb (hzs HB) hb; clear hb hbox hg; have hnb101 := NB552_536.out; have hnc101 := NB536_552.out; have hnb102 := NB552_540.out; have hnc102 := NB540_552.out; have hnb103 := NB552_544.out; have hnc103 := NB544_552.out; have hnb104 := NB552_548.out; have hnc104 := NB548_552.out; obtain ⟨hcz105_0, hcz105_1, hfz105_0, hfz105_1⟩ := cz2 BK552))
      have n0_ : Aside0 (Kd.N k25 25 ((w100.setCell ⟨gb552, 0, none⟩ (.int .i64 t549)).setCell ⟨gb552, 1, none⟩ (.int .i64 t550)) w.heap.size (fun k_ => k_ ≠ gb536 ∧ k_ ≠ gb540 ∧ k_ ≠ gb544 ∧ k_ ≠ gb548 ∧ k_ ≠ gb552) (.slice Ao93 y545.length co93) y545) := ⟨by (with_reducible repeat (first | apply Kd.N_alloc | apply Kd.N_drewN | apply Kd.N_drew)); exact Kd.N_mono (Kd.N_far (p := ⟨gb552, 1, none⟩) (Kd.N_far (p := ⟨gb552, 0, none⟩) (Kd.N_mono HO547.out (fun k_ hk => (⟨hk, hk.2⟩ : _ ∧ k_ ≠ gb552))) (fun _ hk => hk.2) (.int .i64 t549)) (fun _ hk => hk.2) (.int .i64 t550)) (fun _ hk => ⟨hk.1.1.1.1, ⟨hk.1.1.1.2.1, ⟨hk.1.1.1.2.2, ⟨hk.1.1.2, hk.1.2⟩⟩⟩⟩)⟩
      have n1_ : Aside0 (((w100.setCell ⟨gb552, 0, none⟩ (.int .i64 t549)).setCell ⟨gb552, 1, none⟩ (.int .i64 t550)).heap[gb536]? = some (.cells #[.int .i64 t530, .int .i64 t531, .int .i64 t532, .slice Ao10 t533.length co10] 25 (0, 0))) := ⟨bk1 BK536 NB536_552⟩
      have n2_ : Aside0 (((w100.setCell ⟨gb552, 0, none⟩ (.int .i64 t549)).setCell ⟨gb552, 1, none⟩ (.int .i64 t550)).heap[gb540]? = some (.cells #[.int .i64 t537, .int .i64 t538] 31 (0, 0))) := ⟨bk1 BK540 NB540_552⟩
      have n3_ : Aside0 (((w100.setCell ⟨gb552, 0, none⟩ (.int .i64 t549)).setCell ⟨gb552, 1, none⟩ (.int .i64 t550)).heap[gb544]? = some (.cells #[.int .i64 t541, .int .i64 t542] 31 (0, 0))) := ⟨bk1 BK544 NB544_552⟩
      have n4_ : Aside0 (((w100.setCell ⟨gb552, 0, none⟩ (.int .i64 t549)).setCell ⟨gb552, 1, none⟩ (.int .i64 t550)).heap[gb548]? = some (.cells #[.int .i64 2, .int .i64 0, .int .i64 0, .slice Ao93 y545.length co93] 25 (0, 0))) := ⟨bk1 BK548 NB548_552⟩
      have n5_ : Aside0 (((w100.setCell ⟨gb552, 0, none⟩ (.int .i64 t549)).setCell ⟨gb552, 1, none⟩ (.int .i64 t550)).heap[gb552]? = some (.cells #[.int .i64 t549, .int .i64 t550] 31 (0, 0))) := ⟨bkp BK552⟩
      have n6_ : Aside0 (Below w.heap.size w ((w100.setCell ⟨gb552, 0, none⟩ (.int .i64 t549)).setCell ⟨gb552, 1, none⟩ (.int .i64 t550))) := ⟨hzs HB⟩
      (try clear HO547)
      (try clear BK536)
      (try clear BK540)
      (try clear BK544)
      (try clear BK548)
      (try clear BK552)
      (try clear HB)
      generalize ((w100.setCell ⟨gb552, 0, none⟩ (.int .i64 t549)).setCell ⟨gb552, 1, none⟩ (.int .i64 t550)) = w106 at n0_ n1_ n2_ n3_ n4_ n5_ n6_ ⊢
      have HO547 := n0_
      have BK536 := n1_
      have BK540 := n2_
      have BK544 := n3_
      have BK548 := n4_
      have BK552 := n5_
      have HB := n6_
      clear n0_ n1_ n2_ n3_ n4_ n5_ n6_
      replace HO547 := Aside0.mk (Kd.N_drew HO547.out)
      replace BK536 := Aside0.mk (blk_drew BK536.out)
      replace BK540 := Aside0.mk (blk_drew BK540.out)
      replace BK544 := Aside0.mk (blk_drew BK544.out)
      replace BK548 := Aside0.mk (blk_drew BK548.out)
      replace BK552 := Aside0.mk (blk_drew BK552.out)
      replace HB := Aside0.mk (below_drew1 HB.out)
      refine start_ (n := 13) (S := fun w' => w'.cell? ⟨gb548, 0, none⟩ = some (.int .i64 2) ∧ w'.cell? ⟨gb548, 1, none⟩ = some (.int .i64 0) ∧ w'.cell? ⟨gb548, 2, none⟩ = some (.int .i64 0) ∧ w'.cell? ⟨gb548, 3, none⟩ = some (.slice Ao93 y545.length co93)) (ds := []) #[false, false, false, false, false, false, false, false, false, false, false, false, false] (by kernel_rfl) rfl rfl ⟨cw0 BK548, cw1 BK548, (blk_cell BK548.out 2).trans rfl, (blk_cell BK548.out 3).trans rfl⟩ (fun hHeld => ?_); refine with_tabW laws_FnExprNeg.tab10 laws_FnExprNeg.bits10 (fun HT_ HW_ => ?_)
      generalize w106.drew = w107 at HO547 BK536 BK540 BK544 BK548 BK552 HB hHeld ⊢
      refine take_ (i := 0) (N := some 54) (v := ?_) (a' := ?_) #[true, false, false, false, false, false, false, false, false, false, false, false, false] rfl rfl (take_ofW HT_.out HW_.out (by kernel_rfl)) (fun _ _ _ h => h) (Or.inl ⟨by rfl, ?_⟩) hHeld ?_ ?_
      rotate_left
      ·rintro w' ⟨s0, s1, s2, s3⟩
       go_simp
       with_reducible rfl
      rotate_left
      ·simp only [Act.put, List.setIfInBounds_toArray, List.set_cons_zero, List.set_cons_succ, i64_w, i32_w]
       rfl
      refine oN 1 55 #[true, true, false, false, false, false, false, false, false, false, false, false, false] HT_ (fun K hK => ?_)
      refine gS Try.func23 #[.agg #[.int .i64 2, .int .i64 0, .int .i64 0, .slice Ao93 y545.length co93]] ?_
      with_reducible refine (impl_ExprOk.calls kj5 2 0 0 _ _ y545 false _ ?side1 ?side2 A41.out).mono ?_
      (case side1 => repeat (first | exact (Kd.N_reads' HO547.out).2.2 | (with_reducible refine Kd.C_alloc ?_ _) | (with_reducible refine Kd.C_drewN ?_ _) | (with_reducible refine Kd.C_drew ?_)))
      (case side2 => exact (Kd.N_reads' HO547.out).2.1)
      rintro e w108 ⟨rfl, hb⟩
      refine ⟨_, rfl, ?_⟩
      replace HO547 := Aside0.mk (Kd.N_below (by (with_reducible repeat (first | apply Kd.N_alloc | apply Kd.N_drewN | apply Kd.N_drew)); exact HO547.out) hb)
      replace BK536 := bb (bk BK536) hb
      replace BK540 := bb (bk BK540) hb
      replace BK544 := bb (bk BK544) hb
      replace BK548 := bb (bk BK548) hb
      replace BK552 := bb (bk BK552) hb
      replace HB := hbb (hzs HB) hb
      clear hb
      refine hK.out _ _ ⟨cw0 BK548, cw1 BK548, (blk_cell BK548.out 2).trans rfl, (blk_cell BK548.out 3).trans rfl⟩ (fun hHeld => ?_)
      clear hK K
      refine nP ?_
      refine pU 2 56 #[true, true, true, false, false, false, false, false, false, false, false, false, false] HT_ ?_
      refine pU 3 57 #[true, true, true, true, false, false, false, false, false, false, false, false, false] HT_ ?_
      refine pure_ (i := 4) (N := some 58) (v := undef) (a' := ?_) #[true, true, true, true, true, false, false, false, false, false, false, false, false] rfl rfl (any_of HT_.out (by kernel_rfl)) (fun _ _ _ h => h) (Or.inr ⟨by rfl, rfl⟩) ?_ ?_
      rotate_left
      ·simp only [Act.put, List.setIfInBounds_toArray, List.set_cons_zero, List.set_cons_succ, i64_w, i32_w]
       rfl
      refine pure_ (i := 5) (N := some 59) (v := undef) (a' := ?_) #[true, true, true, true, true, true, false, false, false, false, false, false, false] rfl rfl (any_of HT_.out (by kernel_rfl)) (fun _ _ _ h => h) (Or.inr ⟨by rfl, rfl⟩) ?_ ?_
      rotate_left
      ·simp only [Act.put, List.setIfInBounds_toArray, List.set_cons_zero, List.set_cons_succ, i64_w, i32_w]
       rfl
      refine pure_ (i := 6) (N := some 60) (v := undef) (a' := ?_) #[true, true, true, true, true, true, true, false, false, false, false, false, false] rfl rfl (any_of HT_.out (by kernel_rfl)) (fun _ _ _ h => h) (Or.inr ⟨by rfl, rfl⟩) ?_ ?_
      rotate_left
      ·simp only [Act.put, List.setIfInBounds_toArray, List.set_cons_zero, List.set_cons_succ, i64_w, i32_w]
       rfl
      refine pure_ (i := 7) (N := some 61) (v := undef) (a' := ?_) #[true, true, true, true, true, true, true, true, false, false, false, false, false] rfl rfl (any_of HT_.out (by kernel_rfl)) (fun _ _ _ h => h) (Or.inr ⟨by rfl, rfl⟩) ?_ ?_
      rotate_left
      ·simp only [Act.put, List.setIfInBounds_toArray, List.set_cons_zero, List.set_cons_succ, i64_w, i32_w]
       rfl
      refine pure_ (i := 8) (N := some 62) (v := undef) (a' := ?_) #[true, true, true, true, true, true, true, true, true, false, false, false, false] rfl rfl (any_of HT_.out (by kernel_rfl)) (fun _ _ _ h => h) (Or.inr ⟨by rfl, rfl⟩) ?_ ?_
      rotate_left
      ·simp only [Act.put, List.setIfInBounds_toArray, List.set_cons_zero, List.set_cons_succ, i64_w, i32_w]
       rfl
      refine pure_ (i := 9) (N := some 63) (v := undef) (a' := ?_) #[true, true, true, true, true, true, true, true, true, true, false, false, false] rfl rfl (any_of HT_.out (by kernel_rfl)) (fun _ _ _ h => h) (Or.inr ⟨by rfl, rfl⟩) ?_ ?_
      rotate_left
      ·simp only [Act.put, List.setIfInBounds_toArray, List.set_cons_zero, List.set_cons_succ, i64_w, i32_w]
       rfl
      refine pure_ (i := 10) (N := some 64) (v := undef) (a' := ?_) #[true, true, true, true, true, true, true, true, true, true, true, false, false] rfl rfl (any_of HT_.out (by kernel_rfl)) (fun _ _ _ h => h) (Or.inr ⟨by rfl, rfl⟩) ?_ ?_
      rotate_left
      ·simp only [Act.put, List.setIfInBounds_toArray, List.set_cons_zero, List.set_cons_succ, i64_w, i32_w]
       rfl
      refine pU 11 65 #[true, true, true, true, true, true, true, true, true, true, true, true, false] HT_ ?_
      refine pU 12 2 #[true, true, true, true, true, true, true, true, true, true, true, true, true] HT_ ?_
      refine done_ (done_of HT_.out (by kernel_rfl)) ?_
      try go_wp2
      go_ret
      exact ⟨by first | rfl | (simp [errW_none, errW_some] <;> rfl) | (simp [*, errW_none, errW_some] <;> rfl), hzs HB⟩


theorem drawExprSpan_tells {l : List Int} (hl : Bytes l) {k : Nat} (hk : 1400 ≤ k) : ∃ f0 f1 f2 m, spec_DrawExprSpan.f k l = some (f0, f1, f2, m) ∧ nodes ⟨f0, f1, f2, m⟩ ≤ 63 := by
 unfold spec_DrawExprSpan.f
 obtain ⟨b, h1, h2, h3⟩ := open_tells hl
 rw [h1]; simp only [Option.bind_some]
 obtain ⟨g0, g1, g2, m, p, q1, q2, q3, q4⟩ := bent_tells h2 h3 false (show (0 : Int) ≤ 0 by omega) (by omega) (k := k) (by omega)
 rw [q1]; simp only [Option.bind_some]
 exact ⟨_, _, _, _, rfl, q2⟩
theorem size_one (f0 f1 f2 : Int) (e : S25) (h : sizeM ⟨f0, f1, f2, [e]⟩ ≤ 15) : sizeM e ≤ 15 := by
 have p := ok_parts h
 rw [sizeL, sizeL] at p
 omega
theorem FnExprNeg_pure {l0 : List Int} (hl : Bytes l0) {k : Nat} (hk : 3000 ≤ k) : laws_FnExprNeg.f k l0 = some true := by
 unfold laws_FnExprNeg.f
 by_cases h : (l0.length : Int) > 1048576
 ·rw [if_pos h]
 rw [if_neg h]
 obtain ⟨f0, f1, f2, m, q, hn⟩ := drawExprSpan_tells hl (k := k) (by omega)
 rw [q]; simp only [Option.bind_some]
 have e1 := ExprSpan_is (e := ⟨f0, f1, f2, m⟩) (by omega) (k := k) (by omega)
 dsimp only at e1
 rw [e1.1, e1.2]
 simp only [Option.bind_some, bne_self_eq_false, Bool.false_eq_true, if_false, beq_self_eq_true, Bool.not_true, Bool.or_self]
 obtain ⟨k, rfl⟩ : ∃ q, k = q + 1 := ⟨k - 1, by omega⟩
 rw [laws_FnExprNeg.j0]
 by_cases c : (exprR ⟨f0, f1, f2, m⟩).2.2 = true
 ·rw [c, Bool.not_true, if_neg (show ¬ (false = true) by decide)]
  simp only [Option.bind_some]
  have nn : nodes ⟨2, 0, 0, [⟨f0, f1, f2, m⟩]⟩ ≤ 64 := by rw [nodes, nodesL, nodesL]; omega
  have e2 := ExprSpan_is (e := ⟨2, 0, 0, [⟨f0, f1, f2, m⟩]⟩) (by omega) (k := k) (by omega)
  have e3 := ExprOk_is (e := ⟨2, 0, 0, [⟨f0, f1, f2, m⟩]⟩) (by omega) (k := k) (by omega)
  dsimp only at e2 e3
  rw [e2.1, e3.1]
  simp only [Option.bind_some]
  by_cases z : sizeM ⟨2, 0, 0, [⟨f0, f1, f2, m⟩]⟩ ≤ 15
  ·rw [decide_eq_true z, if_pos rfl]
   have y := size_one _ _ _ _ z
   have es : exprR ⟨f0, f1, f2, m⟩ = spanM ⟨f0, f1, f2, m⟩ := if_pos y
   have en : exprR ⟨2, 0, 0, [⟨f0, f1, f2, m⟩]⟩ = negR ((exprR ⟨f0, f1, f2, m⟩).1, (exprR ⟨f0, f1, f2, m⟩).2.1) := by
    rw [show exprR ⟨2, 0, 0, [⟨f0, f1, f2, m⟩]⟩ = spanM ⟨2, 0, 0, [⟨f0, f1, f2, m⟩]⟩ from if_pos z, span_1, ← es, if_pos c]
    unfold opM
    rw [if_neg (show ¬ ((2 : Int) = 1) by decide), if_pos rfl]
   have ng := SpanNeg_is ((exprR_ok ⟨f0, f1, f2, m⟩).pair c)
   dsimp only at ng
   rw [en, ng.1]
   unfold negR
   simp only [Option.bind_some, if_true, beq_self_eq_true, Bool.and_self]
  ·rw [decide_eq_false z, if_neg (show ¬ (false = true) by decide)]
 ·rw [Bool.not_eq_true] at c
  rw [c, Bool.not_false, if_pos rfl]
  simp only [beq_self_eq_true, if_true, Bool.and_self]
theorem FnExprNeg_true (A0 : Option Addr) (c0 : Nat) (l0 : List Int) (w : World) (hr0 : Kd.C (Kd.int .u8) w A0 l0.length l0) (hc0 : l0.length ≤ c0) (hw0 : ∀ x ∈ l0, (Lit.int .u8 x).wf = true) :
  Calls Try.prog 11 #[.slice A0 l0.length c0] w fun e w' => e = .returned (.bool true) ∧ Below w.heap.size w w' :=
 laws_FnExprNeg.calls 3000 A0 c0 l0 true w hr0 hc0 (FnExprNeg_pure (bytes_of hw0) (by omega))

end Go.Proofs.Ytlodpfddimeffaa.M
