import Derived.Test.YtlodpfddimeffaaP8
import Derived.Test.YtlodpfddimeffaaDc
namespace Go.Proofs.Ytlodpfddimeffaa.M
open Go.RowKit Go.Proofs.YtlodpfddimeffaaW.PrintWords Go.Proofs.YtlodpfddimeffaaW.PrintLast Go.Proofs.YtlodpfddimeffaaW.PrintMore
attribute [local go_sem] max2_int min2_int max_two min_two max_three min_three max_four min_four
attribute [local go_sem high] eqA31
attribute [local go_sem] fld31_0 fld31_1 fld25_0 fld25_1 fld25_2 fld25_3
set_option linter.unusedVariables false
set_option linter.unusedSimpArgs false
/-! ### laws_FnExprOk: function 8 -/
mutual
def laws_FnExprOk.j0 : Nat → Bool → Bool → Int → Int → Int → List (S25) → Option (Bool)
 | 0, _, _, _, _, _, _ => none
 | k + 1, x4, x20, x427000, x427001, x427002, x427003 => if x20 = true then ((spec_ExprOk.f k x427000 x427001 x427002 x427003).bind fun t429 => (some (x4 == t429))) else (laws_FnExprOk.l0 k 0 x427000 x427001 x427002 x427003)
def laws_FnExprOk.l0 : Nat → Int → Int → Int → Int → List (S25) → Option (Bool)
 | 0, _, _, _, _, _ => none
 | k + 1, x5, x427000, x427001, x427002, x427003 => if x5 < (x427003.length : Int) then (if 0 ≤ x5 then ((impl_ExprOk.f k ((rd_T25 x427003 x5).f0) ((rd_T25 x427003 x5).f1) ((rd_T25 x427003 x5).f2) ((rd_T25 x427003 x5).f3)).bind fun t431 => (if t431 = true then (laws_FnExprOk.l0 k (wrap64 (x5 + 1)) x427000 x427001 x427002 x427003) else (some false))) else (none)) else (some true)
end
def laws_FnExprOk.f (k : Nat) (l0 : List Int) : Option (Bool) := if (l0.length : Int) > 1048576 then (some true) else ((spec_DrawExprOk.f k l0).bind fun bt420 => ((impl_ExprOk.f k bt420.1 bt420.2.1 bt420.2.2.1 bt420.2.2.2).bind fun t427 => ((spec_ExprOk.f k bt420.1 bt420.2.1 bt420.2.2.1 bt420.2.2.2).bind fun t428 => (if (t427 != t428) = true then (laws_FnExprOk.j0 k t427 true bt420.1 bt420.2.1 bt420.2.2.1 bt420.2.2.2) else (laws_FnExprOk.j0 k t427 (!t427) bt420.1 bt420.2.1 bt420.2.2.1 bt420.2.2.2)))))
set_option maxHeartbeats 8000000 in
set_option maxRecDepth 100000 in
theorem laws_FnExprOk.calls (k : Nat) (A0 : Option Addr) (c0 : Nat) (l0 : List Int) (r : Bool) (w : World) (hr0 : Kd.C (Kd.int .u8) w A0 l0.length l0) (hc0 : l0.length ≤ c0) (h : laws_FnExprOk.f k l0 = some r) :
  Calls Try.prog 8 #[.slice A0 l0.length c0] w fun e w' => e = .returned (.bool r) ∧ Below w.heap.size w w' := by
 have hu25 := Try.underlying25
 have HR0 := Aside0.mk hr0
 have HC0 := Aside0.mk hc0
 clear hr0 hc0
 have HB := Aside0.mk (Below.refl w.heap.size w)
 have H : (if (l0.length : Int) > 1048576 then (some true) else ((spec_DrawExprOk.f k l0).bind fun bt420 => ((impl_ExprOk.f k bt420.1 bt420.2.1 bt420.2.2.1 bt420.2.2.2).bind fun t427 => ((spec_ExprOk.f k bt420.1 bt420.2.1 bt420.2.2.1 bt420.2.2.2).bind fun t428 => (if (t427 != t428) = true then (laws_FnExprOk.j0 k t427 true bt420.1 bt420.2.1 bt420.2.2.1 bt420.2.2.2) else (laws_FnExprOk.j0 k t427 (!t427) bt420.1 bt420.2.1 bt420.2.2.1 bt420.2.2.2)))))) = some r := h
 clear h
 by_cases c2 : (l0.length : Int) > 1048576
 ·rw [if_pos c2] at H
  have c2b0 : decide (1048576 < (l0.length : Int)) = true := decide_eq_true c2
  have c2b1 : decide (1048576 < l0.length) = true := decide_eq_true (by omega)
  clear c2
  obtain rfl := Option.some.inj H
  go_enter Try.func8, Try.ntmps8
  go_wp2
  go_ret
  exact ⟨by first | rfl | (simp [errW_none, errW_some] <;> rfl) | (simp [*, errW_none, errW_some] <;> rfl), hz0 HB⟩
 ·rw [if_neg c2] at H
  have c2b0 : decide (1048576 < (l0.length : Int)) = false := decide_eq_false c2
  have c2b1 : decide (1048576 < l0.length) = false := decide_eq_false (by omega)
  clear c2
  replace H := Option.bind_eq_some_iff.mp H
  obtain ⟨⟨t420, t421, t422, t423⟩, A30, H⟩ := H
  try dsimp only at H
  have A3 := Aside0.mk A30
  clear A30
  replace H := Option.bind_eq_some_iff.mp H
  obtain ⟨t427, A40, H⟩ := H
  try dsimp only at H
  have A4 := Aside0.mk A40
  clear A40
  have HC5 := Aside0.mk H
  clear H
  go_enter Try.func8, Try.ntmps8
  go_upto_region 5 with (first | ((with_reducible refine gate_callee (f := 30) rfl ?_); refine gL 10 Try.func30 #[.slice A0 l0.length c0] ?_; (with_reducible refine (spec_DrawExprOk.calls k _ _ l0 t420 t421 t422 t423 _ ?side1 ?side2 A3.out).mono ?_); (case side1 => repeat (first | exact HR0.out | (with_reducible refine Kd.C_alloc ?_ _) | (with_reducible refine Kd.C_drewN ?_ _) | (with_reducible refine Kd.C_drew ?_))); (case side2 => exact HC0.out); rintro e w6 ⟨v424, rfl, ho0, hb⟩; refine ⟨_, rfl, ?_⟩; have HO425 := Aside0.mk (Kd.N_lower (Kd.N_mono (ok' := fun k_ => True) ho0 (fun k_ hk_ => trivial)) (below_size (hz0 HB))); replace HB := hbb (hz0 HB) hb; (try clear hb); (try clear hb2); (try clear hk); (try clear hi); (try clear ho0)) | ((with_reducible refine gate_dst (N := 3) rfl ?_); refine bE 3 #[.int .i64 0, .int .i64 0, .int .i64 0, .slice none 0 0] 25 ?_; intro gb426 hg w7 hbox hb; have BK426 := Aside0.mk (hbox); have GE426 := gw hg (hz0 HB); replace HO425 := Aside0.mk (Kd.N_below (Kd.N_elderB (by (with_reducible repeat (first | apply Kd.N_alloc | apply Kd.N_drewN | apply Kd.N_drew)); exact HO425.out) gb426 (Nat.le_of_eq hg.symm)) hb); replace HB := hbb (hz0 HB) hb; clear hb hbox hg; have hcz8_0 : w7.cell? ⟨gb426, 0, none⟩ = some (.int .i64 0) := (blk_cell BK426.out 0).trans rfl; have hcz8_1 : w7.cell? ⟨gb426, 1, none⟩ = some (.int .i64 0) := (blk_cell BK426.out 1).trans rfl; have hcz8_2 : w7.cell? ⟨gb426, 2, none⟩ = some (.int .i64 0) := (blk_cell BK426.out 2).trans rfl; have hcz8_3 : w7.cell? ⟨gb426, 3, none⟩ = some (.slice none 0 0) := (blk_cell BK426.out 3).trans rfl; have hfz8_0 := blk_frozen BK426.out 0; have hfz8_1 := blk_frozen BK426.out 1; have hfz8_2 := blk_frozen BK426.out 2; have hfz8_3 := blk_frozen BK426.out 3; obtain ⟨Ao9, co9, eo9⟩ := Kd.N_slice HO425.out; subst eo9) | ((with_reducible refine gate_callee (f := 23) rfl ?_); refine gL 12 Try.func23 #[.agg #[.int .i64 t420, .int .i64 t421, .int .i64 t422, .slice Ao9 t423.length co9]] ?_; (with_reducible refine (impl_ExprOk.calls k t420 t421 t422 _ _ t423 t427 _ ?side1 ?side2 A4.out).mono ?_); (case side1 => refine (Kd.N_reads' (e := 25) (base := w.heap.size) (ok := fun k_ => (True ∧ k_ ≠ gb426)) (n := t423.length) (c := co9) ?_).2.2; exact (by (with_reducible repeat (first | apply Kd.N_alloc | apply Kd.N_drewN | apply Kd.N_drew)); exact (Kd.N_mono (Kd.N_far (p := ⟨gb426, 3, none⟩) (Kd.N_far (p := ⟨gb426, 2, none⟩) (Kd.N_far (p := ⟨gb426, 1, none⟩) (Kd.N_far (p := ⟨gb426, 0, none⟩) (Kd.N_mono HO425.out (fun k_ hk => (⟨hk, hk.2⟩ : _ ∧ k_ ≠ gb426))) (fun _ hk => hk.2) (.int .i64 t420)) (fun _ hk => hk.2) (.int .i64 t421)) (fun _ hk => hk.2) (.int .i64 t422)) (fun _ hk => hk.2) (.slice Ao9 t423.length co9)) (fun _ h_ => h_.1)))); (case side2 => exact (Kd.N_reads' HO425.out).2.1); rintro e w10 ⟨rfl, hb⟩; refine ⟨_, rfl, ?_⟩; replace HO425 := Aside0.mk (Kd.N_below (by (with_reducible repeat (first | apply Kd.N_alloc | apply Kd.N_drewN | apply Kd.N_drew)); exact (Kd.N_mono (Kd.N_far (p := ⟨gb426, 3, none⟩) (Kd.N_far (p := ⟨gb426, 2, none⟩) (Kd.N_far (p := ⟨gb426, 1, none⟩) (Kd.N_far (p := ⟨gb426, 0, none⟩) (Kd.N_mono HO425.out (fun k_ hk => (⟨hk, hk.2⟩ : _ ∧ k_ ≠ gb426))) (fun _ hk => hk.2) (.int .i64 t420)) (fun _ hk => hk.2) (.int .i64 t421)) (fun _ hk => hk.2) (.int .i64 t422)) (fun _ hk => hk.2) (.slice Ao9 t423.length co9)) (fun _ h_ => h_.1))) hb); replace BK426 := Aside0.mk (blk_below (g := gb426) (o := .cells #[.int .i64 t420, .int .i64 t421, .int .i64 t422, .slice Ao9 t423.length co9] 25 (0, 0)) (by (with_reducible repeat (first | refine blk_drewN ?_ _ | refine blk_drew ?_ | refine blk_alloc ?_ _)); refine blk_put (cs := #[.int .i64 t420, .int .i64 t421, .int .i64 t422, .slice none 0 0]) ?_ 3 _ rfl; (with_reducible repeat (first | refine blk_drewN ?_ _ | refine blk_drew ?_ | refine blk_alloc ?_ _)); refine blk_put (cs := #[.int .i64 t420, .int .i64 t421, .int .i64 0, .slice none 0 0]) ?_ 2 _ rfl; (with_reducible repeat (first | refine blk_drewN ?_ _ | refine blk_drew ?_ | refine blk_alloc ?_ _)); refine blk_put (cs := #[.int .i64 t420, .int .i64 0, .int .i64 0, .slice none 0 0]) ?_ 1 _ rfl; (with_reducible repeat (first | refine blk_drewN ?_ _ | refine blk_drew ?_ | refine blk_alloc ?_ _)); refine blk_put (cs := #[.int .i64 0, .int .i64 0, .int .i64 0, .slice none 0 0]) ?_ 0 _ rfl; (with_reducible repeat (first | refine blk_drewN ?_ _ | refine blk_drew ?_ | refine blk_alloc ?_ _)); exact BK426.out) hb); replace HB := hbb (hzs HB) hb; clear hb))
  (try simp only [Act.put, List.setIfInBounds_toArray, List.set_cons_zero, List.set_cons_succ])
  go_cut [20] (fun v20 wc => ∃ (kq : Nat) (x20_4 : Bool), v20 = .bool x20_4 ∧ Aside0 (laws_FnExprOk.j0 kq t427 x20_4 t420 t421 t422 t423 = some r) ∧ Aside0 (kq ≤ k) ∧ Aside0 (Kd.N k25 25 wc w.heap.size (fun k_ => k_ ≠ gb426) (.slice Ao9 t423.length co9) t423) ∧ Aside0 (wc.heap[gb426]? = some (.cells #[.int .i64 t420, .int .i64 t421, .int .i64 t422, (.slice Ao9 t423.length co9)] 25 (0, 0))) ∧ Aside0 (Below w.heap.size w wc))
  case first =>
   have H := HC5.out
   clear HC5
   replace H := Option.bind_eq_some_iff.mp H
   obtain ⟨t428, A110, H⟩ := H
   try dsimp only at H
   have A11 := Aside0.mk A110
   clear A110
   by_cases c12 : (t427 != t428) = true
   ·rw [if_pos c12] at H
    have c12b0 : (t427 != t428) = true := c12
    (try (have c12b1 : decide (t427 = t428) = false := by simpa using c12))
    (try (have c12b2 : (t427 == t428) = false := by simpa using c12))
    (try (have c12b3 : ¬ (t427 = t428) := by simpa using c12))
    clear c12
    (first | rw [c12b0] | (simp only [i64_w, i32_w]; rw [c12b0]) | skip)
    have H' := Aside0.mk H
    clear H
    have hcz13_0 : w10.cell? ⟨gb426, 0, none⟩ = some (.int .i64 t420) := (blk_cell BK426.out 0).trans rfl
    have hcz13_1 : w10.cell? ⟨gb426, 1, none⟩ = some (.int .i64 t421) := (blk_cell BK426.out 1).trans rfl
    have hcz13_2 : w10.cell? ⟨gb426, 2, none⟩ = some (.int .i64 t422) := (blk_cell BK426.out 2).trans rfl
    have hcz13_3 : w10.cell? ⟨gb426, 3, none⟩ = some (.slice Ao9 t423.length co9) := (blk_cell BK426.out 3).trans rfl
    have hfz13_0 := blk_frozen BK426.out 0
    have hfz13_1 := blk_frozen BK426.out 1
    have hfz13_2 := blk_frozen BK426.out 2
    have hfz13_3 := blk_frozen BK426.out 3
    go_wp2_with (first | ((with_reducible refine gate_callee (f := 21) rfl ?_); refine gL 15 Try.func21 #[.agg #[.int .i64 t420, .int .i64 t421, .int .i64 t422, .slice Ao9 t423.length co9]] ?_; (with_reducible refine (spec_ExprOk.calls k t420 t421 t422 _ _ t423 t428 _ ?side1 ?side2 A11.out).mono ?_); (case side1 => repeat (first | exact (Kd.N_reads' HO425.out).2.2 | (with_reducible refine Kd.C_alloc ?_ _) | (with_reducible refine Kd.C_drewN ?_ _) | (with_reducible refine Kd.C_drew ?_))); (case side2 => exact (Kd.N_reads' HO425.out).2.1); rintro e w14 ⟨rfl, hb⟩; refine ⟨_, rfl, ?_⟩; replace HO425 := Aside0.mk (Kd.N_below (by (with_reducible repeat (first | apply Kd.N_alloc | apply Kd.N_drewN | apply Kd.N_drew)); exact HO425.out) hb); replace BK426 := bb (bk BK426) hb; replace HB := hbb (hzs HB) hb; clear hb))
    go_meet
    case rel => exact ⟨_, (true), (by first | rfl | (simp; done) | (simp [*]; done)), H', ⟨by first | omega | exact Nat.le_refl _⟩, ⟨by (with_reducible repeat (first | apply Kd.N_alloc | apply Kd.N_drewN | apply Kd.N_drew)); exact Kd.N_mono HO425.out (fun _ hk => hk.2)⟩, ⟨bk BK426⟩, ⟨hzs HB⟩⟩
   ·rw [if_neg c12] at H
    have c12b0 : (t427 != t428) = false := by simpa using c12
    (try (have c12b1 : decide (t427 = t428) = true := by simpa using c12))
    (try (have c12b2 : (t427 == t428) = true := by simpa using c12))
    clear c12
    (first | rw [c12b0] | (simp only [i64_w, i32_w]; rw [c12b0]) | skip)
    have H' := Aside0.mk H
    clear H
    have hcz15_0 : w10.cell? ⟨gb426, 0, none⟩ = some (.int .i64 t420) := (blk_cell BK426.out 0).trans rfl
    have hcz15_1 : w10.cell? ⟨gb426, 1, none⟩ = some (.int .i64 t421) := (blk_cell BK426.out 1).trans rfl
    have hcz15_2 : w10.cell? ⟨gb426, 2, none⟩ = some (.int .i64 t422) := (blk_cell BK426.out 2).trans rfl
    have hcz15_3 : w10.cell? ⟨gb426, 3, none⟩ = some (.slice Ao9 t423.length co9) := (blk_cell BK426.out 3).trans rfl
    have hfz15_0 := blk_frozen BK426.out 0
    have hfz15_1 := blk_frozen BK426.out 1
    have hfz15_2 := blk_frozen BK426.out 2
    have hfz15_3 := blk_frozen BK426.out 3
    go_wp2_with (first | ((with_reducible refine gate_callee (f := 21) rfl ?_); refine gL 15 Try.func21 #[.agg #[.int .i64 t420, .int .i64 t421, .int .i64 t422, .slice Ao9 t423.length co9]] ?_; (with_reducible refine (spec_ExprOk.calls k t420 t421 t422 _ _ t423 t428 _ ?side1 ?side2 A11.out).mono ?_); (case side1 => repeat (first | exact (Kd.N_reads' HO425.out).2.2 | (with_reducible refine Kd.C_alloc ?_ _) | (with_reducible refine Kd.C_drewN ?_ _) | (with_reducible refine Kd.C_drew ?_))); (case side2 => exact (Kd.N_reads' HO425.out).2.1); rintro e w16 ⟨rfl, hb⟩; refine ⟨_, rfl, ?_⟩; replace HO425 := Aside0.mk (Kd.N_below (by (with_reducible repeat (first | apply Kd.N_alloc | apply Kd.N_drewN | apply Kd.N_drew)); exact HO425.out) hb); replace BK426 := bb (bk BK426) hb; replace HB := hbb (hzs HB) hb; clear hb))
    go_meet
    case rel => exact ⟨_, (!t427), (by first | rfl | (simp; done) | (simp [*]; done)), H', ⟨by first | omega | exact Nat.le_refl _⟩, ⟨by (with_reducible repeat (first | apply Kd.N_alloc | apply Kd.N_drewN | apply Kd.N_drew)); exact Kd.N_mono HO425.out (fun _ hk => hk.2)⟩, ⟨bk BK426⟩, ⟨hzs HB⟩⟩
  case rest =>
   clear HC5
   try clear c1
   try clear c2
   try clear c2b0
   try clear c2b1
   try clear p2
   try clear c3
   try clear c8
   try clear c12
   try clear c12b0
   try clear c12b1
   try clear c12b2
   try clear hcz13_0 hcz13_1 hcz13_2 hcz13_3
   try clear hcz15_0 hcz15_1 hcz15_2 hcz15_3
   try clear hcz8_0 hcz8_1 hcz8_2 hcz8_3
   try clear hfz13_0 hfz13_1 hfz13_2 hfz13_3
   try clear hfz15_0 hfz15_1 hfz15_2 hfz15_3
   try clear hfz8_0 hfz8_1 hfz8_2 hfz8_3
   obtain ⟨kq, x20_4, rfl, HA, HJ4, HO_427003, BK426, HB⟩ := hcut
   cases kq with
   | zero => exact absurd HA.out (by simp [laws_FnExprOk.j0])
   | succ kj4 =>
    have H := HA.out
    clear HA
    simp only [laws_FnExprOk.j0] at H
    by_cases c17 : x20_4 = true
    ·subst c17
     have H1 : ((spec_ExprOk.f kj4 t420 t421 t422 t423).bind fun t429 => (some (t427 == t429))) = some r := by rw [if_pos rfl] at H; exact H
     clear H
     have H := H1
     clear H1
     replace H := Option.bind_eq_some_iff.mp H
     obtain ⟨t429, A180, H⟩ := H
     try dsimp only at H
     have A18 := Aside0.mk A180
     clear A180
     obtain rfl := Option.some.inj H
     have hcz19_0 : wc.cell? ⟨gb426, 0, none⟩ = some (.int .i64 t420) := (blk_cell BK426.out 0).trans rfl
     have hcz19_1 : wc.cell? ⟨gb426, 1, none⟩ = some (.int .i64 t421) := (blk_cell BK426.out 1).trans rfl
     have hcz19_2 : wc.cell? ⟨gb426, 2, none⟩ = some (.int .i64 t422) := (blk_cell BK426.out 2).trans rfl
     have hcz19_3 : wc.cell? ⟨gb426, 3, none⟩ = some (.slice Ao9 t423.length co9) := (blk_cell BK426.out 3).trans rfl
     have hfz19_0 := blk_frozen BK426.out 0
     have hfz19_1 := blk_frozen BK426.out 1
     have hfz19_2 := blk_frozen BK426.out 2
     have hfz19_3 := blk_frozen BK426.out 3
     go_wp2_with (first | ((with_reducible refine gate_callee (f := 21) rfl ?_); refine gL 23 Try.func21 #[.agg #[.int .i64 t420, .int .i64 t421, .int .i64 t422, .slice Ao9 t423.length co9]] ?_; (with_reducible refine (spec_ExprOk.calls kj4 t420 t421 t422 _ _ t423 t429 _ ?side1 ?side2 A18.out).mono ?_); (case side1 => repeat (first | exact (Kd.N_reads' HO_427003.out).2.2 | (with_reducible refine Kd.C_alloc ?_ _) | (with_reducible refine Kd.C_drewN ?_ _) | (with_reducible refine Kd.C_drew ?_))); (case side2 => exact (Kd.N_reads' HO_427003.out).2.1); rintro e w20 ⟨rfl, hb⟩; refine ⟨_, rfl, ?_⟩; replace HO_427003 := Aside0.mk (Kd.N_below (by (with_reducible repeat (first | apply Kd.N_alloc | apply Kd.N_drewN | apply Kd.N_drew)); exact HO_427003.out) hb); replace BK426 := bb (bk BK426) hb; replace HB := hbb (hzs HB) hb; clear hb))
     go_ret
     exact ⟨by first | rfl | (simp [errW_none, errW_some] <;> rfl) | (simp [*, errW_none, errW_some] <;> rfl), hzs HB⟩
    ·replace c17 := Bool.eq_false_iff.mpr c17
     subst c17
     have H1 : (laws_FnExprOk.l0 kj4 0 t420 t421 t422 t423) = some r := by rw [if_neg (show ¬ (false = true) by decide)] at H; exact H
     clear H
     have H := H1
     clear H1
     have H' := Aside0.mk H
     clear H
     go_wp2
     go_loopg [5] kj4 (fun kq v5 w' => ∃ (x5_2 : Int), v5 = .int .i64 x5_2 ∧ Aside0 (laws_FnExprOk.l0 kq x5_2 t420 t421 t422 t423 = some r) ∧ Aside0 (kq ≤ kj4) ∧ Aside0 (Kd.N k25 25 w' w.heap.size (fun k_ => k_ ≠ gb426) (.slice Ao9 t423.length co9) t423) ∧ Aside0 (w'.heap[gb426]? = some (.cells #[.int .i64 t420, .int .i64 t421, .int .i64 t422, (.slice Ao9 t423.length co9)] 25 (0, 0))) ∧ Aside0 (Below w.heap.size w w'))
     case atStart => exact ⟨(0), (by first | rfl | (simp; done) | (simp [*]; done)), H', ⟨Nat.le_refl _⟩, ⟨by (with_reducible repeat (first | apply Kd.N_alloc | apply Kd.N_drewN | apply Kd.N_drew)); exact HO_427003.out⟩, ⟨bk BK426⟩, ⟨hzs HB⟩⟩
     case round =>
      clear H'
      try clear c1
      try clear c2
      try clear c2b0
      try clear c2b1
      try clear p2
      try clear c3
      try clear c8
      try clear c12
      try clear c12b0
      try clear c12b1
      try clear c12b2
      try clear c17
      try clear hcz13_0 hcz13_1 hcz13_2 hcz13_3
      try clear hcz15_0 hcz15_1 hcz15_2 hcz15_3
      try clear hcz19_0 hcz19_1 hcz19_2 hcz19_3
      try clear hcz8_0 hcz8_1 hcz8_2 hcz8_3
      try clear hfz13_0 hfz13_1 hfz13_2 hfz13_3
      try clear hfz15_0 hfz15_1 hfz15_2 hfz15_3
      try clear hfz19_0 hfz19_1 hfz19_2 hfz19_3
      try clear hfz8_0 hfz8_1 hfz8_2 hfz8_3
      try clear p2
      obtain ⟨x5_2, rfl, HA, HK2, HO_427003, BK426, HB⟩ := hrel
      cases gk with
      | zero => exact absurd HA.out (by simp [laws_FnExprOk.l0])
      | succ k2 =>
       have H := HA.out
       clear HA
       simp only [laws_FnExprOk.l0] at H
       by_cases c21 : x5_2 < (t423.length : Int)
       ·rw [if_pos c21] at H
        have c21b0 : decide (x5_2 < (t423.length : Int)) = true := decide_eq_true c21
        clear c21
        by_cases c22 : 0 ≤ x5_2
        ·rw [if_pos c22] at H
         have c22b0 : decide (0 ≤ x5_2) = true := decide_eq_true c22
         clear c22
         replace H := Option.bind_eq_some_iff.mp H
         obtain ⟨t431, A230, H⟩ := H
         try dsimp only at H
         have A23 := Aside0.mk A230
         clear A230
         by_cases c24 : t431 = true
         ·subst c24
          have H1 : (laws_FnExprOk.l0 k2 (wrap64 (x5_2 + 1)) t420 t421 t422 t423) = some r := by rw [if_pos rfl] at H; exact H
          clear H
          have H := H1
          clear H1
          have H' := Aside0.mk H
          clear H
          have hcz25_0 : wr.cell? ⟨gb426, 0, none⟩ = some (.int .i64 t420) := (blk_cell BK426.out 0).trans rfl
          have hcz25_1 : wr.cell? ⟨gb426, 1, none⟩ = some (.int .i64 t421) := (blk_cell BK426.out 1).trans rfl
          have hcz25_2 : wr.cell? ⟨gb426, 2, none⟩ = some (.int .i64 t422) := (blk_cell BK426.out 2).trans rfl
          have hcz25_3 : wr.cell? ⟨gb426, 3, none⟩ = some (.slice Ao9 t423.length co9) := (blk_cell BK426.out 3).trans rfl
          have hfz25_0 := blk_frozen BK426.out 0
          have hfz25_1 := blk_frozen BK426.out 1
          have hfz25_2 := blk_frozen BK426.out 2
          have hfz25_3 := blk_frozen BK426.out 3
          have p430 : 0 ≤ (x5_2 : Int) := of_decide_eq_true (by first | (with_reducible assumption) | assumption)
          have q430 : x5_2 < (t423.length : Int) := of_decide_eq_true (by first | (with_reducible assumption) | assumption)
          obtain ⟨ad430, A430_3, c430_3, e430, hx430_0, hx430_1, hx430_2, hx430_3, hl430_3, hi430_3⟩ := at_T25 (Kd.N_reads' HO_427003.out).2.2 x5_2 p430 q430
          cases e430
          obtain ⟨ce430, hce430, hMe430, hcc430⟩ := Kd.N_get HO_427003.out z25 x5_2 p430 (by first | exact q430 | exact of_decide_eq_true (by first | (with_reducible assumption) | assumption) | (have e_ := (Kd.N_reads' HO_427003.out).1; omega))
          obtain ⟨ua430_3, uc430_3, rfl, ul430_3, ge430_3⟩ := k25_openF hMe430
          have hv430_3 := hcc430 3 _ rfl
          rw [add_field _ _ 3 (by omega)] at hv430_3
          replace hv430_3 := Option.some.inj (hv430_3.symm.trans hx430_3)
          injection hv430_3 with hva_ hvn_ hvc_
          rw [hva_] at ge430_3
          rw [hvc_] at ul430_3
          have HL430_3 := Aside0.mk (show Kd.V k25 25 _ w.heap.size _ _ ((rd_T25 t423 x5_2).f3) from Kd.V_mk ul430_3 ge430_3)
          clear hva_ hvn_ hvc_ ge430_3 ul430_3
          clear hcc430 hce430
          have HR430_3 := Aside0.mk hi430_3
          have HC430_3 := Aside0.mk hl430_3
          clear hi430_3 hl430_3
          replace p430 := eq_true p430
          replace q430 := eq_true q430
          go_wp2_with (first | ((with_reducible refine gate_callee (f := 23) rfl ?_); refine gL 37 Try.func23 #[.agg #[.int .i64 ((rd_T25 t423 x5_2).f0), .int .i64 ((rd_T25 t423 x5_2).f1), .int .i64 ((rd_T25 t423 x5_2).f2), .slice A430_3 ((rd_T25 t423 x5_2).f3).length c430_3]] ?_; (with_reducible refine (impl_ExprOk.calls k2 ((rd_T25 t423 x5_2).f0) ((rd_T25 t423 x5_2).f1) ((rd_T25 t423 x5_2).f2) _ _ ((rd_T25 t423 x5_2).f3) true _ ?side1 ?side2 A23.out).mono ?_); (case side1 => repeat (first | exact (by repeat (first | (with_reducible exact HR430_3.out) | (with_reducible refine Kd.C_alloc ?_ _) | (with_reducible refine Kd.C_drewN ?_ _) | (with_reducible refine Kd.C_drew ?_) | exact HR430_3.out)) | (with_reducible refine Kd.C_alloc ?_ _) | (with_reducible refine Kd.C_drewN ?_ _) | (with_reducible refine Kd.C_drew ?_))); (case side2 => exact HC430_3.out); rintro e w26 ⟨rfl, hb⟩; refine ⟨_, rfl, ?_⟩; replace HO_427003 := Aside0.mk (Kd.N_below (by (with_reducible repeat (first | apply Kd.N_alloc | apply Kd.N_drewN | apply Kd.N_drew)); exact HO_427003.out) hb); replace HL430_3 := Aside0.mk (Kd.V_below (by (with_reducible repeat (first | apply Kd.V_alloc | apply Kd.V_drewN | apply Kd.V_drew)); exact HL430_3.out) hb); replace BK426 := bb (bk BK426) hb; replace HR430_3 := Aside0.mk (Kd.C_below (by repeat (first | (with_reducible exact HR430_3.out) | (with_reducible refine Kd.C_alloc ?_ _) | (with_reducible refine Kd.C_drewN ?_ _) | (with_reducible refine Kd.C_drew ?_) | exact HR430_3.out)) hb); replace HB := hbb (hzs HB) hb; clear hb))
          go_roundg k2
          case measure => have := HJ4.out; have := HK2.out; omega
          case rel => exact ⟨(wrap64 (x5_2 + 1)), (by first | rfl | (simp; done) | (simp [*]; done)), H', ⟨by have := HJ4.out; have := HK2.out; omega⟩, ⟨by (with_reducible repeat (first | apply Kd.N_alloc | apply Kd.N_drewN | apply Kd.N_drew)); exact HO_427003.out⟩, ⟨bk BK426⟩, ⟨hzs HB⟩⟩
         ·replace c24 := Bool.eq_false_iff.mpr c24
          subst c24
          have H1 : (some false) = some r := by rw [if_neg (show ¬ (false = true) by decide)] at H; exact H
          clear H
          have H := H1
          clear H1
          obtain rfl := Option.some.inj H
          have hcz27_0 : wr.cell? ⟨gb426, 0, none⟩ = some (.int .i64 t420) := (blk_cell BK426.out 0).trans rfl
          have hcz27_1 : wr.cell? ⟨gb426, 1, none⟩ = some (.int .i64 t421) := (blk_cell BK426.out 1).trans rfl
          have hcz27_2 : wr.cell? ⟨gb426, 2, none⟩ = some (.int .i64 t422) := (blk_cell BK426.out 2).trans rfl
          have hcz27_3 : wr.cell? ⟨gb426, 3, none⟩ = some (.slice Ao9 t423.length co9) := (blk_cell BK426.out 3).trans rfl
          have hfz27_0 := blk_frozen BK426.out 0
          have hfz27_1 := blk_frozen BK426.out 1
          have hfz27_2 := blk_frozen BK426.out 2
          have hfz27_3 := blk_frozen BK426.out 3
          have p430 : 0 ≤ (x5_2 : Int) := of_decide_eq_true (by first | (with_reducible assumption) | assumption)
          have q430 : x5_2 < (t423.length : Int) := of_decide_eq_true (by first | (with_reducible assumption) | assumption)
          obtain ⟨ad430, A430_3, c430_3, e430, hx430_0, hx430_1, hx430_2, hx430_3, hl430_3, hi430_3⟩ := at_T25 (Kd.N_reads' HO_427003.out).2.2 x5_2 p430 q430
          cases e430
          obtain ⟨ce430, hce430, hMe430, hcc430⟩ := Kd.N_get HO_427003.out z25 x5_2 p430 (by first | exact q430 | exact of_decide_eq_true (by first | (with_reducible assumption) | assumption) | (have e_ := (Kd.N_reads' HO_427003.out).1; omega))
          obtain ⟨ua430_3, uc430_3, rfl, ul430_3, ge430_3⟩ := k25_openF hMe430
          have hv430_3 := hcc430 3 _ rfl
          rw [add_field _ _ 3 (by omega)] at hv430_3
          replace hv430_3 := Option.some.inj (hv430_3.symm.trans hx430_3)
          injection hv430_3 with hva_ hvn_ hvc_
          rw [hva_] at ge430_3
          rw [hvc_] at ul430_3
          have HL430_3 := Aside0.mk (show Kd.V k25 25 _ w.heap.size _ _ ((rd_T25 t423 x5_2).f3) from Kd.V_mk ul430_3 ge430_3)
          clear hva_ hvn_ hvc_ ge430_3 ul430_3
          clear hcc430 hce430
          have HR430_3 := Aside0.mk hi430_3
          have HC430_3 := Aside0.mk hl430_3
          clear hi430_3 hl430_3
          replace p430 := eq_true p430
          replace q430 := eq_true q430
          go_wp2_with (first | ((with_reducible refine gate_callee (f := 23) rfl ?_); refine gL 37 Try.func23 #[.agg #[.int .i64 ((rd_T25 t423 x5_2).f0), .int .i64 ((rd_T25 t423 x5_2).f1), .int .i64 ((rd_T25 t423 x5_2).f2), .slice A430_3 ((rd_T25 t423 x5_2).f3).length c430_3]] ?_; (with_reducible refine (impl_ExprOk.calls k2 ((rd_T25 t423 x5_2).f0) ((rd_T25 t423 x5_2).f1) ((rd_T25 t423 x5_2).f2) _ _ ((rd_T25 t423 x5_2).f3) false _ ?side1 ?side2 A23.out).mono ?_); (case side1 => repeat (first | exact (by repeat (first | (with_reducible exact HR430_3.out) | (with_reducible refine Kd.C_alloc ?_ _) | (with_reducible refine Kd.C_drewN ?_ _) | (with_reducible refine Kd.C_drew ?_) | exact HR430_3.out)) | (with_reducible refine Kd.C_alloc ?_ _) | (with_reducible refine Kd.C_drewN ?_ _) | (with_reducible refine Kd.C_drew ?_))); (case side2 => exact HC430_3.out); rintro e w28 ⟨rfl, hb⟩; refine ⟨_, rfl, ?_⟩; replace HO_427003 := Aside0.mk (Kd.N_below (by (with_reducible repeat (first | apply Kd.N_alloc | apply Kd.N_drewN | apply Kd.N_drew)); exact HO_427003.out) hb); replace HL430_3 := Aside0.mk (Kd.V_below (by (with_reducible repeat (first | apply Kd.V_alloc | apply Kd.V_drewN | apply Kd.V_drew)); exact HL430_3.out) hb); replace BK426 := bb (bk BK426) hb; replace HR430_3 := Aside0.mk (Kd.C_below (by repeat (first | (with_reducible exact HR430_3.out) | (with_reducible refine Kd.C_alloc ?_ _) | (with_reducible refine Kd.C_drewN ?_ _) | (with_reducible refine Kd.C_drew ?_) | exact HR430_3.out)) hb); replace HB := hbb (hzs HB) hb; clear hb))
          go_ret
          exact ⟨by first | rfl | (simp [errW_none, errW_some] <;> rfl) | (simp [*, errW_none, errW_some] <;> rfl), hzs HB⟩
        ·rw [if_neg c22] at H
         exact absurd H (by simp)
       ·rw [if_neg c21] at H
        have c21b0 : decide (x5_2 < (t423.length : Int)) = false := decide_eq_false c21
        clear c21
        obtain rfl := Option.some.inj H
        have hcz29_0 : wr.cell? ⟨gb426, 0, none⟩ = some (.int .i64 t420) := (blk_cell BK426.out 0).trans rfl
        have hcz29_1 : wr.cell? ⟨gb426, 1, none⟩ = some (.int .i64 t421) := (blk_cell BK426.out 1).trans rfl
        have hcz29_2 : wr.cell? ⟨gb426, 2, none⟩ = some (.int .i64 t422) := (blk_cell BK426.out 2).trans rfl
        have hcz29_3 : wr.cell? ⟨gb426, 3, none⟩ = some (.slice Ao9 t423.length co9) := (blk_cell BK426.out 3).trans rfl
        have hfz29_0 := blk_frozen BK426.out 0
        have hfz29_1 := blk_frozen BK426.out 1
        have hfz29_2 := blk_frozen BK426.out 2
        have hfz29_3 := blk_frozen BK426.out 3
        go_wp2
        go_ret
        exact ⟨by first | rfl | (simp [errW_none, errW_some] <;> rfl) | (simp [*, errW_none, errW_some] <;> rfl), hzs HB⟩


/-! ### the parts of what can be reckoned -/
theorem rd_mem {l : List S25} {i : Int} (h0 : 0 ≤ i) (h1 : i < (l.length : Int)) : rd_T25 l i ∈ l := by
 unfold rd_T25
 rw [List.getD_eq_getElem?_getD, List.getElem?_eq_getElem (by omega)]
 exact List.getElem_mem _
theorem len_nodes (l : List S25) : l.length ≤ nodesL l := by
 induction l with
 | nil => exact Nat.zero_le _
 | cons x l ih => rw [nodesL]; have := nodes_pos x; simp only [List.length_cons]; omega
theorem drawOkLoop_tells {b : List Int} (hb : Bytes b) (hl : b.length ≤ 2000) (d : Nat) : ∀ (i p f0 f1 f2 : Int) (l : List S25) (k : Nat), 0 ≤ i → i + d = 4 → 0 ≤ p → p + d < 900000 → 10 + d ≤ k → nodes ⟨f0, f1, f2, l⟩ + 2 * d ≤ 100 →
  ∃ g0 g1 g2 m, spec_DrawExprOk.l0 k i b p f0 f1 f2 l = some (g0, g1, g2, m) ∧ nodes ⟨g0, g1, g2, m⟩ ≤ 100 := by
 induction d with
 | zero =>
  intro i p f0 f1 f2 l k h1 h2 h3 h4 h5 h6
  obtain ⟨k, rfl⟩ : ∃ q, k = q + 1 := ⟨k - 1, by omega⟩
  rw [spec_DrawExprOk.l0, if_neg (by omega)]
  exact ⟨_, _, _, _, rfl, by omega⟩
 | succ d ih =>
  intro i p f0 f1 f2 l k h1 h2 h3 h4 h5 h6
  obtain ⟨k, rfl⟩ : ∃ q, k = q + 1 := ⟨k - 1, by omega⟩
  rw [spec_DrawExprOk.l0, if_pos (by omega)]
  obtain ⟨v, q1, q2, q3⟩ := pick_tells hb hl h3 (by omega) (show (3 : Int) < 1073741824 by omega) (k := k) (by omega)
  rw [q1]; simp only [Option.bind_some]
  rw [w64 (x := i + 1) (by omega) (by omega)]
  refine ih (i + 1) (p + 1) 7 0 0 _ k (by omega) (by omega) (by omega) ?_ (by omega) ?_
  ·omega
  ·have e : nodes ⟨7, 0, 0, [⟨f0, f1, f2, l⟩, ⟨1, 0, v, []⟩]⟩ = 1 + (nodes ⟨f0, f1, f2, l⟩ + (1 + 0 + 0)) := by
    rw [nodes, nodesL, nodesL, nodesL, nodes.eq_1 1 0 v [], nodesL]
   omega
theorem drawExprOk_tells {l : List Int} (hl : Bytes l) {k : Nat} (hk : 1400 ≤ k) : ∃ f0 f1 f2 m, spec_DrawExprOk.f k l = some (f0, f1, f2, m) ∧ nodes ⟨f0, f1, f2, m⟩ ≤ 100 := by
 unfold spec_DrawExprOk.f
 obtain ⟨b, h1, h2, h3⟩ := open_tells hl
 rw [h1]; simp only [Option.bind_some]
 obtain ⟨g0, g1, g2, m, p, q1, q2, q3, q4⟩ := bent_tells h2 h3 false (show (0 : Int) ≤ 0 by omega) (by omega) (k := k) (by omega)
 rw [q1]; simp only [Option.bind_some]
 obtain ⟨v, r1, r2, r3⟩ := pick_tells h2 h3 q3 (by omega) (show (3 : Int) < 1073741824 by omega) (k := k) (by omega)
 rw [r1]; simp only [Option.bind_some]
 by_cases c : v = 0
 ·rw [if_pos c]
  exact drawOkLoop_tells h2 h3 4 0 (p + 1) g0 g1 g2 m k (by omega) (by omega) (by omega) (by omega) (by omega) (by omega)
 ·rw [if_neg c]
  exact ⟨_, _, _, _, rfl, by omega⟩
theorem okKids_tells {f0 f1 f2 : Int} {l : List S25} (hn : nodesL l ≤ 100) (hs : ∀ x ∈ l, sizeM x ≤ 15) (d : Nat) : ∀ (i : Int) (k : Nat), 0 ≤ i → i + d = (l.length : Int) → 2500 + d ≤ k → laws_FnExprOk.l0 k i f0 f1 f2 l = some true := by
 have ln := len_nodes l
 induction d with
 | zero =>
  intro i k h1 h2 h3
  obtain ⟨k, rfl⟩ : ∃ q, k = q + 1 := ⟨k - 1, by omega⟩
  rw [laws_FnExprOk.l0, if_neg (by omega)]
 | succ d ih =>
  intro i k h1 h2 h3
  obtain ⟨k, rfl⟩ : ∃ q, k = q + 1 := ⟨k - 1, by omega⟩
  have m := rd_mem h1 (show i < (l.length : Int) by omega)
  have p := part_le m
  rw [laws_FnExprOk.l0, if_pos (by omega), if_pos h1, (ExprOk_is (e := rd_T25 l i) (by omega) (by omega)).1, decide_eq_true (hs _ m)]
  simp only [Option.bind_some, if_true]
  rw [w64 (x := i + 1) (by omega) (by omega)]
  exact ih (i + 1) k (by omega) (by omega) (by omega)
theorem FnExprOk_pure {l0 : List Int} (hl : Bytes l0) {k : Nat} (hk : 3000 ≤ k) : laws_FnExprOk.f k l0 = some true := by
 unfold laws_FnExprOk.f
 by_cases h : (l0.length : Int) > 1048576
 ·rw [if_pos h]
 rw [if_neg h]
 obtain ⟨f0, f1, f2, m, q, hn⟩ := drawExprOk_tells hl (k := k) (by omega)
 rw [q]; simp only [Option.bind_some]
 have e1 := ExprOk_is (e := ⟨f0, f1, f2, m⟩) (by omega) (k := k) (by omega)
 dsimp only at e1
 rw [e1.1, e1.2]
 simp only [Option.bind_some, bne_self_eq_false, Bool.false_eq_true, if_false]
 obtain ⟨k, rfl⟩ : ∃ q, k = q + 1 := ⟨k - 1, by omega⟩
 have e2 := ExprOk_is (e := ⟨f0, f1, f2, m⟩) (by omega) (k := k) (by omega)
 dsimp only at e2
 rw [laws_FnExprOk.j0]
 by_cases c : sizeM ⟨f0, f1, f2, m⟩ ≤ 15
 ·rw [decide_eq_true c, Bool.not_true, if_neg (show ¬ (false = true) by decide)]
  have p := ok_parts c
  rw [nodes] at hn
  have ln := len_nodes m
  exact okKids_tells (by omega) (fun x hx => by have := part_le hx; omega) m.length 0 k (by omega) (by omega) (by omega)
 ·rw [decide_eq_false c, Bool.not_false, if_pos rfl, e2.2, decide_eq_false c]
  rfl
theorem FnExprOk_true (A0 : Option Addr) (c0 : Nat) (l0 : List Int) (w : World) (hr0 : Kd.C (Kd.int .u8) w A0 l0.length l0) (hc0 : l0.length ≤ c0) (hw0 : ∀ x ∈ l0, (Lit.int .u8 x).wf = true) :
  Calls Try.prog 8 #[.slice A0 l0.length c0] w fun e w' => e = .returned (.bool true) ∧ Below w.heap.size w w' :=
 laws_FnExprOk.calls 3000 A0 c0 l0 true w hr0 hc0 (FnExprOk_pure (bytes_of hw0) (by omega))

end Go.Proofs.Ytlodpfddimeffaa.M
