import Derived.Test.YtlodpfddimeffaaM0
import Derived.Test.YtlodpfddimeffaaDa
import Derived.Test.YtlodpfddimeffaaDg
namespace Go.Proofs.Ytlodpfddimeffaa.M
open Go.RowKit Go.Proofs.YtlodpfddimeffaaW.PrintWords Go.Proofs.YtlodpfddimeffaaW.PrintLast Go.Proofs.YtlodpfddimeffaaW.PrintMore
attribute [local go_sem] max2_int min2_int max_two min_two max_three min_three max_four min_four
attribute [local go_sem high] eqA31
attribute [local go_sem] fld31_0 fld31_1 fld25_0 fld25_1 fld25_2 fld25_3
set_option linter.unusedVariables false
set_option linter.unusedSimpArgs false

/-! ### spec_DrawExprSpan: function 33 -/
def spec_DrawExprSpan.f (k : Nat) (l0 : List Int) : Option (Int × Int × Int × (List (S25))) := (spec_l6Open.f l0).bind fun bt519 => ((spec_l71Bent.f k bt519.1 bt519.2 false).bind fun bt522 => (some (bt522.1, bt522.2.1, bt522.2.2.1, bt522.2.2.2.1)))
set_option maxHeartbeats 8000000 in
set_option maxRecDepth 100000 in
theorem spec_DrawExprSpan.calls (k : Nat) (A0 : Option Addr) (c0 : Nat) (l0 : List Int) (r1 : Int) (r2 : Int) (r3 : Int) (r4 : List (S25)) (w : World) (hr0 : Kd.C (Kd.int .u8) w A0 l0.length l0) (hc0 : l0.length ≤ c0) (h : spec_DrawExprSpan.f k l0 = some (r1, r2, r3, r4)) :
  Calls Try.prog 33 #[.slice A0 l0.length c0] w fun e w' => ∃ v3_ : Value, e = .returned (.agg #[.int .i64 r1, .int .i64 r2, .int .i64 r3, v3_]) ∧ Kd.N k25 25 w' w.heap.size (fun k_ => (w.heap.size ≤ k_)) v3_ r4 ∧ Below w.heap.size w w' := by
 have hu25 := Try.underlying25
 have HR0 := Aside0.mk hr0
 have HC0 := Aside0.mk hc0
 clear hr0 hc0
 have HB := Aside0.mk (Below.refl w.heap.size w)
 have H := h
 clear h
 unfold spec_DrawExprSpan.f at H
 replace H := Option.bind_eq_some_iff.mp H
 obtain ⟨⟨t519, t520⟩, A20, H⟩ := H
 try dsimp only at H
 have A2 := Aside0.mk A20
 clear A20
 replace H := Option.bind_eq_some_iff.mp H
 obtain ⟨⟨t522, t523, t524, t525, t528⟩, A30, H⟩ := H
 try dsimp only at H
 have A3 := Aside0.mk A30
 clear A30
 simp only [Option.some.injEq, Prod.mk.injEq] at H
 obtain ⟨rfl, rfl, rfl, rfl⟩ := H
 go_enter Try.func33, Try.ntmps33
 go_wp2_with (first | ((with_reducible refine gate_dst (N := 2) rfl ?_); refine bE 2 #[.int .i64 0, .int .i64 0, .int .i64 0, .slice none 0 0] 25 ?_; intro gb518 hg w4 hbox hb; have BK518 := Aside0.mk (hbox); have GE518 := gw hg (hz0 HB); replace HB := hbb (hz0 HB) hb; clear hb hbox hg) | ((with_reducible refine gate_callee (f := 36) rfl ?_); refine gL 4 Try.func36 #[.slice A0 l0.length c0] ?_; (with_reducible refine (spec_l6Open.calls _ _ l0 t519 t520 w _ ?side1 ?side2 ?side3 A2.out).mono ?_); (case side1 => exact hzs HB); (case side2 => exact HR0.out); (case side3 => exact HC0.out); rintro e w5 ⟨g521, rfl, hi, hb, hb2⟩; refine ⟨_, rfl, ?_⟩; have HI521 := Aside0.mk (hi); have NB521_518 := Aside0.mk (IsS72.ne_blk hi (blk_below (g := gb518) (o := .cells #[.int .i64 0, .int .i64 0, .int .i64 0, .slice none 0 0] 25 (0, 0)) (bk BK518) hb2) (by decide)); have NB518_521 := Aside0.mk (Ne.symm (IsS72.ne_blk hi (blk_below (g := gb518) (o := .cells #[.int .i64 0, .int .i64 0, .int .i64 0, .slice none 0 0] 25 (0, 0)) (bk BK518) hb2) (by decide))); replace BK518 := Aside0.mk (blk_below (g := gb518) (o := .cells #[.int .i64 0, .int .i64 0, .int .i64 0, .slice none 0 0] 25 (0, 0)) (bk BK518) hb2); replace HB := Aside0.mk (hb); (try clear hb); (try clear hb2); (try clear hk); (try clear hi)) | ((with_reducible refine gate_callee (f := 37) rfl ?_); refine gL 5 Try.func37 #[.pointer (some ⟨g521, 0, none⟩), .bool false] ?_; (with_reducible refine (spec_l71Bent.calls k g521 t519 t520 false t522 t523 t524 t525 t528 w _ ?side1 ?side2 A3.out).mono ?_); (case side1 => exact IsS72.go_ HI521); (case side2 => exact hzI HB); rintro e w6 ⟨v526, rfl, ho0, hi, hb, hk⟩; refine ⟨_, rfl, ?_⟩; have HO527 := Aside0.mk (Kd.N_lower (Kd.N_mono (ok' := fun k_ => (w.heap.size ≤ k_) ∧ k_ ≠ gb518 ∧ k_ ≠ g521) ho0 (fun k_ hk_ => ⟨(Nat.le_trans (below_size (hzI HB)) hk_), (Kd.freshB (g := gb518) (o := .cells #[.int .i64 0, .int .i64 0, .int .i64 0, .slice none 0 0] 25 (0, 0)) (bk BK518) k_ hk_), (IsS72.fresh (IsS72.go_ HI521) k_ hk_)⟩)) (below_size (hzI HB))); replace BK518 := kb hk (bk BK518) NB518_521; replace HB := Aside0.mk (hb); replace HI521 := Aside0.mk (hi); (try clear hb); (try clear hb2); (try clear hk); (try clear hi); (try clear ho0); have hnb7 := NB518_521.out; have hnc7 := NB521_518.out; obtain ⟨hcz8_0, hcz8_1, hcz8_2, hcz8_3, hfz8_0, hfz8_1, hfz8_2, hfz8_3⟩ := cz4 BK518; obtain ⟨Ao9, co9, eo9⟩ := Kd.N_slice HO527.out; subst eo9))
 refine bodyPost_ret (results_cell_row rfl _ _ gb518 25 #[.int .i64 t522, .int .i64 t523, .int .i64 t524, .slice Ao9 t525.length co9] (0, 0) _ rfl (by (with_reducible repeat (first | refine blk_drewN ?_ _ | refine blk_drew ?_ | refine blk_alloc ?_ _)); refine blk_put (cs := #[.int .i64 t522, .int .i64 t523, .int .i64 t524, .slice none 0 0]) ?_ 3 _ rfl; (with_reducible repeat (first | refine blk_drewN ?_ _ | refine blk_drew ?_ | refine blk_alloc ?_ _)); refine blk_put (cs := #[.int .i64 t522, .int .i64 t523, .int .i64 0, .slice none 0 0]) ?_ 2 _ rfl; (with_reducible repeat (first | refine blk_drewN ?_ _ | refine blk_drew ?_ | refine blk_alloc ?_ _)); refine blk_put (cs := #[.int .i64 t522, .int .i64 0, .int .i64 0, .slice none 0 0]) ?_ 1 _ rfl; (with_reducible repeat (first | refine blk_drewN ?_ _ | refine blk_drew ?_ | refine blk_alloc ?_ _)); refine blk_put (cs := #[.int .i64 0, .int .i64 0, .int .i64 0, .slice none 0 0]) ?_ 0 _ rfl; (with_reducible repeat (first | refine blk_drewN ?_ _ | refine blk_drew ?_ | refine blk_alloc ?_ _)); exact BK518.out) Try.underlying25 rfl (by kernel_rfl)) rfl ?_
 exact ⟨_, by first | rfl | (simp [errW_none, errW_some] <;> rfl) | (simp [*, errW_none, errW_some] <;> rfl), by (with_reducible repeat (first | apply Kd.N_alloc | apply Kd.N_drewN | apply Kd.N_drew)); exact Kd.N_mono (Kd.N_far (p := ⟨gb518, 3, none⟩) (Kd.N_far (p := ⟨gb518, 2, none⟩) (Kd.N_far (p := ⟨gb518, 1, none⟩) (Kd.N_far (p := ⟨gb518, 0, none⟩) (Kd.N_mono HO527.out (fun k_ hk => (⟨hk, hk.2.1⟩ : _ ∧ k_ ≠ gb518))) (fun _ hk => hk.2) (.int .i64 t522)) (fun _ hk => hk.2) (.int .i64 t523)) (fun _ hk => hk.2) (.int .i64 t524)) (fun _ hk => hk.2) (.slice Ao9 t525.length co9)) (fun _ hk => hk.1.1), hzI HB⟩


end Go.Proofs.Ytlodpfddimeffaa.M
