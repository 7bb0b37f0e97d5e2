import Derived.Test.YtlodpfddimeffaaP7
import Derived.Test.YtlodpfddimeffaaP8
import Derived.Test.YtlodpfddimeffaaP9
import Derived.Test.YtlodpfddimeffaaDd
import Derived.Test.YtlodpfddimeffaaDf
namespace Go.Proofs.Ytlodpfddimeffaa.M
open Go.RowKit Go.Proofs.YtlodpfddimeffaaW.PrintWords Go.Proofs.YtlodpfddimeffaaW.PrintLast Go.Proofs.YtlodpfddimeffaaW.PrintMore
attribute [local go_sem] max2_int min2_int max_two min_two max_three min_three max_four min_four
attribute [local go_sem high] eqA31
attribute [local go_sem] fld31_0 fld31_1 fld25_0 fld25_1 fld25_2 fld25_3
set_option linter.unusedVariables false
set_option linter.unusedSimpArgs false
/-! ### laws_FnExprRound: function 7 -/
mutual
def laws_FnExprRound.j0 : Nat → List Int → List Int → Bool → Option (Bool)
 | 0, _, _, _ => none
 | k + 1, x0, x1, x26 => if x26 = true then (some true) else ((spec_DrawExprRat.f k x0).bind fun bt624 => ((spec_DrawExprRound.f k x1).bind fun bt631 => ((spec_ExprRat.f k bt624.1 bt624.2.1 bt624.2.2.1 bt624.2.2.2).bind fun bt640 => ((impl_ExprRat.f k bt624.1 bt624.2.1 bt624.2.2.1 bt624.2.2.2).bind fun bt643 => (if (bt643.2.2 != bt640.2.2) = true then (laws_FnExprRound.j1 k bt631.2.2.2.2.1 bt631.2.2.2.2.2 bt640.1 bt640.2.1 bt640.2.2 bt643.1 bt643.2.1 bt643.2.2 true bt624.1 bt624.2.1 bt624.2.2.1 bt624.2.2.2) else (if bt643.1 = bt640.1 then (if bt643.2.1 = bt640.2.1 then (laws_FnExprRound.j1 k bt631.2.2.2.2.1 bt631.2.2.2.2.2 bt640.1 bt640.2.1 bt640.2.2 bt643.1 bt643.2.1 bt643.2.2 (!bt643.2.2) bt624.1 bt624.2.1 bt624.2.2.1 bt624.2.2.2) else (laws_FnExprRound.j1 k bt631.2.2.2.2.1 bt631.2.2.2.2.2 bt640.1 bt640.2.1 bt640.2.2 bt643.1 bt643.2.1 bt643.2.2 true bt624.1 bt624.2.1 bt624.2.2.1 bt624.2.2.2)) else (laws_FnExprRound.j1 k bt631.2.2.2.2.1 bt631.2.2.2.2.2 bt640.1 bt640.2.1 bt640.2.2 bt643.1 bt643.2.1 bt643.2.2 true bt624.1 bt624.2.1 bt624.2.2.1 bt624.2.2.2)))))))
def laws_FnExprRound.j1 : Nat → Int → Int → Int → Int → Bool → Int → Int → Bool → Bool → Int → Int → Int → List (S25) → Option (Bool)
 | 0, _, _, _, _, _, _, _, _, _, _, _, _, _ => none
 | k + 1, x7, x8, x9, x10, x11, x12, x13, x14, x63, x631000, x631001, x631002, x631003 => if x63 = true then (if (x14 == x11) = true then (if x12 = x9 then (some (x13 == x10)) else (some false)) else (some false)) else ((impl_ExprRound.f k x631000 x631001 x631002 x631003 x7 x8).bind fun bt646 => ((impl_NumRound.f (wrap64 (x12 * 1000000000)) (wrap64 (x13 * x7)) x8).bind fun bt648 => (if bt646.2 = true then (if bt648.2 = true then (some (bt646.1 == bt648.1)) else (some true)) else (some true))))
end
def laws_FnExprRound.f (k : Nat) (l0 : List Int) (l1 : List Int) : Option (Bool) := if (l0.length : Int) > 1048576 then (laws_FnExprRound.j0 k l0 l1 true) else (laws_FnExprRound.j0 k l0 l1 (decide ((l1.length : Int) > 1048576)))
set_option maxHeartbeats 8000000 in
set_option maxRecDepth 100000 in
theorem laws_FnExprRound.calls (k : Nat) (A0 : Option Addr) (c0 : Nat) (l0 : List Int) (A1 : Option Addr) (c1 : Nat) (l1 : List Int) (r : Bool) (w : World) (hr0 : Kd.C (Kd.int .u8) w A0 l0.length l0) (hc0 : l0.length ≤ c0) (hr1 : Kd.C (Kd.int .u8) w A1 l1.length l1) (hc1 : l1.length ≤ c1) (h : laws_FnExprRound.f k l0 l1 = some r) :
  Calls Try.prog 7 #[.slice A0 l0.length c0, .slice A1 l1.length c1] w fun e w' => e = .returned (.bool r) ∧ Below w.heap.size w w' := by
 have hu25 := Try.underlying25
 have HR0 := Aside0.mk hr0
 have HC0 := Aside0.mk hc0
 clear hr0 hc0
 have HR1 := Aside0.mk hr1
 have HC1 := Aside0.mk hc1
 clear hr1 hc1
 have HB := Aside0.mk (Below.refl w.heap.size w)
 have H := h
 clear h
 unfold laws_FnExprRound.f at H
 have HC3 := Aside0.mk H
 clear H
 go_enter Try.func7, Try.ntmps7
 go_upto_region 1 with (fail)
 go_cut [26] (fun v26 wc => ∃ (kq : Nat) (x26_2 : Bool), v26 = .bool x26_2 ∧ Aside0 (laws_FnExprRound.j0 kq l0 l1 x26_2 = some r) ∧ Aside0 (kq ≤ k) ∧ Aside0 (Below w.heap.size w wc))
 case first =>
  have H := HC3.out
  clear HC3
  by_cases c4 : (l0.length : Int) > 1048576
  ·rw [if_pos c4] at H
   have c4b0 : decide (1048576 < (l0.length : Int)) = true := decide_eq_true c4
   have c4b1 : decide (1048576 < l0.length) = true := decide_eq_true (by omega)
   clear c4
   (first | rw [c4b0] | (simp only [i64_w, i32_w]; rw [c4b0]) | skip)
   have H' := Aside0.mk H
   clear H
   go_wp2
   go_meet
   case rel => exact ⟨_, (true), (by first | rfl | (simp; done) | (simp [*]; done)), H', ⟨by first | omega | exact Nat.le_refl _⟩, ⟨hz0 HB⟩⟩
  ·rw [if_neg c4] at H
   have c4b0 : decide (1048576 < (l0.length : Int)) = false := decide_eq_false c4
   have c4b1 : decide (1048576 < l0.length) = false := decide_eq_false (by omega)
   clear c4
   (first | rw [c4b0] | (simp only [i64_w, i32_w]; rw [c4b0]) | skip)
   have H' := Aside0.mk H
   clear H
   go_wp2
   go_meet
   case rel => exact ⟨_, (decide ((l1.length : Int) > 1048576)), (by first | rfl | (simp; done) | (simp [*]; done)), H', ⟨by first | omega | exact Nat.le_refl _⟩, ⟨hz0 HB⟩⟩
 case rest =>
  clear HC3
  try clear c1
  try clear p2
  try clear c4
  try clear c4b0
  try clear c4b1
  obtain ⟨kq, x26_2, rfl, HA, HJ2, HB⟩ := hcut
  cases kq with
  | zero => exact absurd HA.out (by simp [laws_FnExprRound.j0])
  | succ kj2 =>
   have H := HA.out
   clear HA
   simp only [laws_FnExprRound.j0] at H
   by_cases c5 : x26_2 = true
   ·subst c5
    rw [if_pos rfl] at H
    obtain rfl := Option.some.inj H
    go_wp2
    go_ret
    exact ⟨by first | rfl | (simp [errW_none, errW_some] <;> rfl) | (simp [*, errW_none, errW_some] <;> rfl), hz0 HB⟩
   ·replace c5 := Bool.eq_false_iff.mpr c5
    subst c5
    rw [if_neg (show ¬ (false = true) by decide)] at H
    replace H := Option.bind_eq_some_iff.mp H
    obtain ⟨⟨t624, t625, t626, t627⟩, A60, H⟩ := H
    try dsimp only at H
    have A6 := Aside0.mk A60
    clear A60
    replace H := Option.bind_eq_some_iff.mp H
    obtain ⟨⟨t631, t632, t633, t634, t637, t638⟩, A70, H⟩ := H
    try dsimp only at H
    have A7 := Aside0.mk A70
    clear A70
    replace H := Option.bind_eq_some_iff.mp H
    obtain ⟨⟨t640, t641, t642⟩, A80, H⟩ := H
    try dsimp only at H
    have A8 := Aside0.mk A80
    clear A80
    replace H := Option.bind_eq_some_iff.mp H
    obtain ⟨⟨t643, t644, t645⟩, A90, H⟩ := H
    try dsimp only at H
    have A9 := Aside0.mk A90
    clear A90
    have HC10 := Aside0.mk H
    clear H
    go_upto_region 7 with (first | ((with_reducible refine gate_callee (f := 27) rfl ?_); refine gL 28 Try.func27 #[.slice A0 l0.length c0] ?_; (with_reducible refine (spec_DrawExprRat.calls kj2 _ _ l0 t624 t625 t626 t627 _ ?side1 ?side2 A6.out).mono ?_); (case side1 => repeat (first | exact (Kd.C_below HR0.out HB.out) | (with_reducible refine Kd.C_alloc ?_ _) | (with_reducible refine Kd.C_drewN ?_ _) | (with_reducible refine Kd.C_drew ?_))); (case side2 => exact HC0.out); rintro e w11 ⟨v628, rfl, ho0, hb⟩; refine ⟨_, rfl, ?_⟩; have HO629 := Aside0.mk (Kd.N_lower (Kd.N_mono (ok' := fun k_ => True) ho0 (fun k_ hk_ => trivial)) (below_size (hz0 HB))); replace HB := hbb (hz0 HB) hb; (try clear hb); (try clear hb2); (try clear hk); (try clear hi); (try clear ho0)) | ((with_reducible refine gate_dst (N := 5) rfl ?_); (try (refine gate_guard (by rfl) ?_; dsimp only)); refine bE 5 #[.int .i64 0, .int .i64 0, .int .i64 0, .slice none 0 0] 25 ?_; intro gb630 hg w12 hbox hb; have BK630 := Aside0.mk (hbox); have GE630 := gw hg (hz0 HB); replace HO629 := Aside0.mk (Kd.N_below (Kd.N_elderB (by (with_reducible repeat (first | apply Kd.N_alloc | apply Kd.N_drewN | apply Kd.N_drew)); exact HO629.out) gb630 (Nat.le_of_eq hg.symm)) hb); replace HB := hbb (hz0 HB) hb; clear hb hbox hg; obtain ⟨hcz13_0, hcz13_1, hcz13_2, hcz13_3, hfz13_0, hfz13_1, hfz13_2, hfz13_3⟩ := cz4 BK630; obtain ⟨Ao14, co14, eo14⟩ := Kd.N_slice HO629.out; subst eo14) | ((with_reducible refine gate_callee (f := 15) rfl ?_); refine gL 31 Try.func15 #[.slice A1 l1.length c1] ?_; (with_reducible refine (spec_DrawExprRound.calls kj2 _ _ l1 t631 t632 t633 t634 t637 t638 _ ?side1 ?side2 A7.out).mono ?_); (case side1 => exact Kd.C_below HR1.out (hzs HB)); (case side2 => exact HC1.out); rintro e w15 ⟨v635, rfl, ho0, hb⟩; refine ⟨_, rfl, ?_⟩; have HO636 := Aside0.mk (Kd.N_lower (Kd.N_mono (ok' := fun k_ => some k_ ≠ (.slice Ao14 t627.length co14 : Value).ownBlock ∧ k_ ≠ gb630) ho0 (fun k_ hk_ => ⟨(Kd.fresh' (Kd.N_lt (by (with_reducible repeat (first | apply Kd.N_alloc | apply Kd.N_drewN | apply Kd.N_drew)); exact (Kd.N_mono (Kd.N_far (p := ⟨gb630, 3, none⟩) (Kd.N_far (p := ⟨gb630, 2, none⟩) (Kd.N_far (p := ⟨gb630, 1, none⟩) (Kd.N_far (p := ⟨gb630, 0, none⟩) (Kd.N_mono HO629.out (fun k_ hk => (⟨hk, hk.2⟩ : _ ∧ k_ ≠ gb630))) (fun _ hk => hk.2) (.int .i64 t624)) (fun _ hk => hk.2) (.int .i64 t625)) (fun _ hk => hk.2) (.int .i64 t626)) (fun _ hk => hk.2) (.slice Ao14 t627.length co14)) (fun _ h_ => h_.1)))) k_ hk_), (Kd.freshB (g := gb630) (o := .cells #[.int .i64 t624, .int .i64 t625, .int .i64 t626, .slice Ao14 t627.length co14] 25 (0, 0)) (by (with_reducible repeat (first | refine blk_drewN ?_ _ | refine blk_drew ?_ | refine blk_alloc ?_ _)); refine blk_put (cs := #[.int .i64 t624, .int .i64 t625, .int .i64 t626, .slice none 0 0]) ?_ 3 _ rfl; (with_reducible repeat (first | refine blk_drewN ?_ _ | refine blk_drew ?_ | refine blk_alloc ?_ _)); refine blk_put (cs := #[.int .i64 t624, .int .i64 t625, .int .i64 0, .slice none 0 0]) ?_ 2 _ rfl; (with_reducible repeat (first | refine blk_drewN ?_ _ | refine blk_drew ?_ | refine blk_alloc ?_ _)); refine blk_put (cs := #[.int .i64 t624, .int .i64 0, .int .i64 0, .slice none 0 0]) ?_ 1 _ rfl; (with_reducible repeat (first | refine blk_drewN ?_ _ | refine blk_drew ?_ | refine blk_alloc ?_ _)); refine blk_put (cs := #[.int .i64 0, .int .i64 0, .int .i64 0, .slice none 0 0]) ?_ 0 _ rfl; (with_reducible repeat (first | refine blk_drewN ?_ _ | refine blk_drew ?_ | refine blk_alloc ?_ _)); exact BK630.out) k_ hk_)⟩)) (below_size (hzs HB))); replace HO629 := Aside0.mk (Kd.N_elder' (by (with_reducible repeat (first | apply Kd.N_alloc | apply Kd.N_drewN | apply Kd.N_drew)); exact (Kd.N_mono (Kd.N_far (p := ⟨gb630, 3, none⟩) (Kd.N_far (p := ⟨gb630, 2, none⟩) (Kd.N_far (p := ⟨gb630, 1, none⟩) (Kd.N_far (p := ⟨gb630, 0, none⟩) (Kd.N_mono HO629.out (fun k_ hk => (⟨hk, hk.2⟩ : _ ∧ k_ ≠ gb630))) (fun _ hk => hk.2) (.int .i64 t624)) (fun _ hk => hk.2) (.int .i64 t625)) (fun _ hk => hk.2) (.int .i64 t626)) (fun _ hk => hk.2) (.slice Ao14 t627.length co14)) (fun _ h_ => h_.1))) (Kd.N_base ho0) hb); replace BK630 := Aside0.mk (blk_below (g := gb630) (o := .cells #[.int .i64 t624, .int .i64 t625, .int .i64 t626, .slice Ao14 t627.length co14] 25 (0, 0)) (by (with_reducible repeat (first | refine blk_drewN ?_ _ | refine blk_drew ?_ | refine blk_alloc ?_ _)); refine blk_put (cs := #[.int .i64 t624, .int .i64 t625, .int .i64 t626, .slice none 0 0]) ?_ 3 _ rfl; (with_reducible repeat (first | refine blk_drewN ?_ _ | refine blk_drew ?_ | refine blk_alloc ?_ _)); refine blk_put (cs := #[.int .i64 t624, .int .i64 t625, .int .i64 0, .slice none 0 0]) ?_ 2 _ rfl; (with_reducible repeat (first | refine blk_drewN ?_ _ | refine blk_drew ?_ | refine blk_alloc ?_ _)); refine blk_put (cs := #[.int .i64 t624, .int .i64 0, .int .i64 0, .slice none 0 0]) ?_ 1 _ rfl; (with_reducible repeat (first | refine blk_drewN ?_ _ | refine blk_drew ?_ | refine blk_alloc ?_ _)); refine blk_put (cs := #[.int .i64 0, .int .i64 0, .int .i64 0, .slice none 0 0]) ?_ 0 _ rfl; (with_reducible repeat (first | refine blk_drewN ?_ _ | refine blk_drew ?_ | refine blk_alloc ?_ _)); exact BK630.out) hb); replace HB := hbb (hzs HB) hb; (try clear hb); (try clear hb2); (try clear hk); (try clear hi); (try clear ho0)) | ((with_reducible refine gate_dst (N := 6) rfl ?_); (try (refine gate_guard (by rfl) ?_; dsimp only)); refine bE 6 #[.int .i64 0, .int .i64 0, .int .i64 0, .slice none 0 0] 25 ?_; intro gb639 hg w16 hbox hb; have BK639 := Aside0.mk (hbox); have GE639 := gw hg (hzs HB); have NB630_639 := nl hg (bk BK630); have NB639_630 := ng hg (bk BK630); replace HO629 := Aside0.mk (Kd.N_below (Kd.N_elderB (by (with_reducible repeat (first | apply Kd.N_alloc | apply Kd.N_drewN | apply Kd.N_drew)); exact HO629.out) gb639 (Nat.le_of_eq hg.symm)) hb); replace HO636 := Aside0.mk (Kd.N_below (Kd.N_elderB (by (with_reducible repeat (first | apply Kd.N_alloc | apply Kd.N_drewN | apply Kd.N_drew)); exact HO636.out) gb639 (Nat.le_of_eq hg.symm)) hb); replace BK630 := bb (bk BK630) hb; replace HB := hbb (hzs HB) hb; clear hb hbox hg; have hnb17 := NB639_630.out; have hnc17 := NB630_639.out; obtain ⟨hcz18_0, hcz18_1, hcz18_2, hcz18_3, hfz18_0, hfz18_1, hfz18_2, hfz18_3⟩ := cz4 BK639; obtain ⟨Ao19, co19, eo19⟩ := Kd.N_slice HO636.out; subst eo19; obtain ⟨hcz20_0, hcz20_1, hcz20_2, hcz20_3, hfz20_0, hfz20_1, hfz20_2, hfz20_3⟩ := cz4 BK630) | ((with_reducible refine gate_callee (f := 25) rfl ?_); refine gL 37 Try.func25 #[.agg #[.int .i64 t624, .int .i64 t625, .int .i64 t626, .slice Ao14 t627.length co14]] ?_; (with_reducible refine (spec_ExprRat.calls kj2 t624 t625 t626 _ _ t627 t640 t641 t642 _ ?side1 ?side2 A8.out).mono ?_); (case side1 => refine (Kd.N_reads' (e := 25) (base := w.heap.size) (ok := fun k_ => (((True ∧ k_ ≠ gb630) ∧ some k_ ≠ (.slice Ao19 t634.length co19 : Value).ownBlock) ∧ k_ ≠ gb639)) (n := t627.length) (c := co14) ?_).2.2; exact (by (with_reducible repeat (first | apply Kd.N_alloc | apply Kd.N_drewN | apply Kd.N_drew)); exact (Kd.N_mono (Kd.N_far (p := ⟨gb639, 3, none⟩) (Kd.N_far (p := ⟨gb639, 2, none⟩) (Kd.N_far (p := ⟨gb639, 1, none⟩) (Kd.N_far (p := ⟨gb639, 0, none⟩) (Kd.N_mono HO629.out (fun k_ hk => (⟨hk, hk.2⟩ : _ ∧ k_ ≠ gb639))) (fun _ hk => hk.2) (.int .i64 t631)) (fun _ hk => hk.2) (.int .i64 t632)) (fun _ hk => hk.2) (.int .i64 t633)) (fun _ hk => hk.2) (.slice Ao19 t634.length co19)) (fun _ h_ => h_.1)))); (case side2 => exact (Kd.N_reads' HO629.out).2.1); rintro e w21 ⟨rfl, hb⟩; refine ⟨_, rfl, ?_⟩; replace HO629 := Aside0.mk (Kd.N_below (by (with_reducible repeat (first | apply Kd.N_alloc | apply Kd.N_drewN | apply Kd.N_drew)); exact (Kd.N_mono (Kd.N_far (p := ⟨gb639, 3, none⟩) (Kd.N_far (p := ⟨gb639, 2, none⟩) (Kd.N_far (p := ⟨gb639, 1, none⟩) (Kd.N_far (p := ⟨gb639, 0, none⟩) (Kd.N_mono HO629.out (fun k_ hk => (⟨hk, hk.2⟩ : _ ∧ k_ ≠ gb639))) (fun _ hk => hk.2) (.int .i64 t631)) (fun _ hk => hk.2) (.int .i64 t632)) (fun _ hk => hk.2) (.int .i64 t633)) (fun _ hk => hk.2) (.slice Ao19 t634.length co19)) (fun _ h_ => h_.1))) hb); replace HO636 := Aside0.mk (Kd.N_below (by (with_reducible repeat (first | apply Kd.N_alloc | apply Kd.N_drewN | apply Kd.N_drew)); exact (Kd.N_mono (Kd.N_far (p := ⟨gb639, 3, none⟩) (Kd.N_far (p := ⟨gb639, 2, none⟩) (Kd.N_far (p := ⟨gb639, 1, none⟩) (Kd.N_far (p := ⟨gb639, 0, none⟩) (Kd.N_mono HO636.out (fun k_ hk => (⟨hk, hk.2⟩ : _ ∧ k_ ≠ gb639))) (fun _ hk => hk.2) (.int .i64 t631)) (fun _ hk => hk.2) (.int .i64 t632)) (fun _ hk => hk.2) (.int .i64 t633)) (fun _ hk => hk.2) (.slice Ao19 t634.length co19)) (fun _ h_ => h_.1))) hb); replace BK630 := bb (bk1 BK630 NB630_639) hb; replace BK639 := Aside0.mk (blk_below (g := gb639) (o := .cells #[.int .i64 t631, .int .i64 t632, .int .i64 t633, .slice Ao19 t634.length co19] 25 (0, 0)) (by (with_reducible repeat (first | refine blk_drewN ?_ _ | refine blk_drew ?_ | refine blk_alloc ?_ _)); refine blk_put (cs := #[.int .i64 t631, .int .i64 t632, .int .i64 t633, .slice none 0 0]) ?_ 3 _ rfl; (with_reducible repeat (first | refine blk_drewN ?_ _ | refine blk_drew ?_ | refine blk_alloc ?_ _)); refine blk_put (cs := #[.int .i64 t631, .int .i64 t632, .int .i64 0, .slice none 0 0]) ?_ 2 _ rfl; (with_reducible repeat (first | refine blk_drewN ?_ _ | refine blk_drew ?_ | refine blk_alloc ?_ _)); refine blk_put (cs := #[.int .i64 t631, .int .i64 0, .int .i64 0, .slice none 0 0]) ?_ 1 _ rfl; (with_reducible repeat (first | refine blk_drewN ?_ _ | refine blk_drew ?_ | refine blk_alloc ?_ _)); refine blk_put (cs := #[.int .i64 0, .int .i64 0, .int .i64 0, .slice none 0 0]) ?_ 0 _ rfl; (with_reducible repeat (first | refine blk_drewN ?_ _ | refine blk_drew ?_ | refine blk_alloc ?_ _)); exact BK639.out) hb); replace HB := hbb (hzs HB) hb; clear hb; obtain ⟨hcz22_0, hcz22_1, hcz22_2, hcz22_3, hfz22_0, hfz22_1, hfz22_2, hfz22_3⟩ := cz4 BK630) | ((with_reducible refine gate_callee (f := 26) rfl ?_); refine gL 43 Try.func26 #[.agg #[.int .i64 t624, .int .i64 t625, .int .i64 t626, .slice Ao14 t627.length co14]] ?_; (with_reducible refine (impl_ExprRat.calls kj2 t624 t625 t626 _ _ t627 t643 t644 t645 _ ?side1 ?side2 A9.out).mono ?_); (case side1 => repeat (first | exact (Kd.N_reads' HO629.out).2.2 | (with_reducible refine Kd.C_alloc ?_ _) | (with_reducible refine Kd.C_drewN ?_ _) | (with_reducible refine Kd.C_drew ?_))); (case side2 => exact (Kd.N_reads' HO629.out).2.1); rintro e w23 ⟨rfl, hb⟩; refine ⟨_, rfl, ?_⟩; replace HO629 := Aside0.mk (Kd.N_below (by (with_reducible repeat (first | apply Kd.N_alloc | apply Kd.N_drewN | apply Kd.N_drew)); exact HO629.out) hb); replace HO636 := Aside0.mk (Kd.N_below (by (with_reducible repeat (first | apply Kd.N_alloc | apply Kd.N_drewN | apply Kd.N_drew)); exact HO636.out) hb); replace BK630 := bb (bk BK630) hb; replace BK639 := bb (bk BK639) hb; replace HB := hbb (hzs HB) hb; clear hb))
    (try simp only [Act.put, List.setIfInBounds_toArray, List.set_cons_zero, List.set_cons_succ])
    go_cut [63] (fun v63 wc => ∃ (kq : Nat) (x63_9 : Bool), v63 = .bool x63_9 ∧ Aside0 (laws_FnExprRound.j1 kq t637 t638 t640 t641 t642 t643 t644 t645 x63_9 t624 t625 t626 t627 = some r) ∧ Aside0 (kq ≤ kj2) ∧ Aside0 (Kd.N k25 25 wc w.heap.size (fun k_ => some k_ ≠ ((.slice Ao19 t634.length co19) : Value).ownBlock ∧ k_ ≠ gb630 ∧ k_ ≠ gb639) (.slice Ao14 t627.length co14) t627) ∧ Aside0 (Kd.N k25 25 wc w.heap.size (fun k_ => some k_ ≠ ((.slice Ao14 t627.length co14) : Value).ownBlock ∧ k_ ≠ gb630 ∧ k_ ≠ gb639) (.slice Ao19 t634.length co19) t634) ∧ Aside0 (wc.heap[gb630]? = some (.cells #[.int .i64 t624, .int .i64 t625, .int .i64 t626, (.slice Ao14 t627.length co14)] 25 (0, 0))) ∧ Aside0 (wc.heap[gb639]? = some (.cells #[.int .i64 t631, .int .i64 t632, .int .i64 t633, (.slice Ao19 t634.length co19)] 25 (0, 0))) ∧ Aside0 (Below w.heap.size w wc))
    case first =>
     have H := HC10.out
     clear HC10
     by_cases c24 : (t645 != t642) = true
     ·rw [if_pos c24] at H
      have c24b0 : (t645 != t642) = true := c24
      (try (have c24b1 : decide (t645 = t642) = false := by simpa using c24))
      (try (have c24b2 : (t645 == t642) = false := by simpa using c24))
      (try (have c24b3 : ¬ (t645 = t642) := by simpa using c24))
      clear c24
      (first | rw [c24b0] | (simp only [i64_w, i32_w]; rw [c24b0]) | skip)
      have H' := Aside0.mk H
      clear H
      go_wp2
      go_meet
      case rel => exact ⟨_, (true), (by first | rfl | (simp; done) | (simp [*]; done)), H', ⟨by have := HJ2.out; first | omega | exact Nat.le_refl _⟩, ⟨by (with_reducible repeat (first | apply Kd.N_alloc | apply Kd.N_drewN | apply Kd.N_drew)); exact Kd.N_mono HO629.out (fun _ hk => ⟨hk.1.2, ⟨hk.1.1.2, hk.2⟩⟩)⟩, ⟨by (with_reducible repeat (first | apply Kd.N_alloc | apply Kd.N_drewN | apply Kd.N_drew)); exact Kd.N_mono HO636.out (fun _ hk => ⟨hk.1.1, ⟨hk.1.2, hk.2⟩⟩)⟩, ⟨bk BK630⟩, ⟨bk BK639⟩, ⟨hzs HB⟩⟩
     ·rw [if_neg c24] at H
      have c24b0 : (t645 != t642) = false := by simpa using c24
      (try (have c24b1 : decide (t645 = t642) = true := by simpa using c24))
      (try (have c24b2 : (t645 == t642) = true := by simpa using c24))
      clear c24
      (first | rw [c24b0] | (simp only [i64_w, i32_w]; rw [c24b0]) | skip)
      by_cases c25 : t643 = t640
      ·rw [if_pos c25] at H
       have c25b0 : (t643 == t640) = true := beq_iff_eq.mpr c25
       have c25b1 : (t643 != t640) = false := bne_eq_false_iff_eq.mpr c25
       clear c25
       by_cases c26 : t644 = t641
       ·rw [if_pos c26] at H
        have c26b0 : (t644 == t641) = true := beq_iff_eq.mpr c26
        have c26b1 : (t644 != t641) = false := bne_eq_false_iff_eq.mpr c26
        clear c26
        have H' := Aside0.mk H
        clear H
        go_wp2
        go_meet
        case rel => exact ⟨_, (!t645), (by first | rfl | (simp; done) | (simp [*]; done)), H', ⟨by have := HJ2.out; first | omega | exact Nat.le_refl _⟩, ⟨by (with_reducible repeat (first | apply Kd.N_alloc | apply Kd.N_drewN | apply Kd.N_drew)); exact Kd.N_mono HO629.out (fun _ hk => ⟨hk.1.2, ⟨hk.1.1.2, hk.2⟩⟩)⟩, ⟨by (with_reducible repeat (first | apply Kd.N_alloc | apply Kd.N_drewN | apply Kd.N_drew)); exact Kd.N_mono HO636.out (fun _ hk => ⟨hk.1.1, ⟨hk.1.2, hk.2⟩⟩)⟩, ⟨bk BK630⟩, ⟨bk BK639⟩, ⟨hzs HB⟩⟩
       ·rw [if_neg c26] at H
        have c26b0 : (t644 == t641) = false := beq_eq_false_iff_ne.mpr c26
        have c26b1 : (t644 != t641) = true := bne_iff_ne.mpr c26
        have H' := Aside0.mk H
        clear H
        go_wp2
        go_meet
        case rel => exact ⟨_, (true), (by first | rfl | (simp; done) | (simp [*]; done)), H', ⟨by have := HJ2.out; first | omega | exact Nat.le_refl _⟩, ⟨by (with_reducible repeat (first | apply Kd.N_alloc | apply Kd.N_drewN | apply Kd.N_drew)); exact Kd.N_mono HO629.out (fun _ hk => ⟨hk.1.2, ⟨hk.1.1.2, hk.2⟩⟩)⟩, ⟨by (with_reducible repeat (first | apply Kd.N_alloc | apply Kd.N_drewN | apply Kd.N_drew)); exact Kd.N_mono HO636.out (fun _ hk => ⟨hk.1.1, ⟨hk.1.2, hk.2⟩⟩)⟩, ⟨bk BK630⟩, ⟨bk BK639⟩, ⟨hzs HB⟩⟩
      ·rw [if_neg c25] at H
       have c25b0 : (t643 == t640) = false := beq_eq_false_iff_ne.mpr c25
       have c25b1 : (t643 != t640) = true := bne_iff_ne.mpr c25
       have H' := Aside0.mk H
       clear H
       go_wp2
       go_meet
       case rel => exact ⟨_, (true), (by first | rfl | (simp; done) | (simp [*]; done)), H', ⟨by have := HJ2.out; first | omega | exact Nat.le_refl _⟩, ⟨by (with_reducible repeat (first | apply Kd.N_alloc | apply Kd.N_drewN | apply Kd.N_drew)); exact Kd.N_mono HO629.out (fun _ hk => ⟨hk.1.2, ⟨hk.1.1.2, hk.2⟩⟩)⟩, ⟨by (with_reducible repeat (first | apply Kd.N_alloc | apply Kd.N_drewN | apply Kd.N_drew)); exact Kd.N_mono HO636.out (fun _ hk => ⟨hk.1.1, ⟨hk.1.2, hk.2⟩⟩)⟩, ⟨bk BK630⟩, ⟨bk BK639⟩, ⟨hzs HB⟩⟩
    case rest =>
     clear HC10
     try clear c1
     try clear c2
     try clear p2
     try clear c4
     try clear c4b0
     try clear c4b1
     try clear c5
     try clear c7
     try clear c15
     try clear c17
     try clear c24
     try clear c24b0
     try clear c24b1
     try clear c24b2
     try clear c25
     try clear c25b0
     try clear c25b1
     try clear c26
     try clear c26b0
     try clear c26b1
     try clear hcz13_0 hcz13_1 hcz13_2 hcz13_3
     try clear hcz18_0 hcz18_1 hcz18_2 hcz18_3
     try clear hcz20_0 hcz20_1 hcz20_2 hcz20_3
     try clear hcz22_0 hcz22_1 hcz22_2 hcz22_3
     try clear hfz13_0 hfz13_1 hfz13_2 hfz13_3
     try clear hfz18_0 hfz18_1 hfz18_2 hfz18_3
     try clear hfz20_0 hfz20_1 hfz20_2 hfz20_3
     try clear hfz22_0 hfz22_1 hfz22_2 hfz22_3
     try clear p2
     obtain ⟨kq, x63_9, rfl, HA, HJ9, HO_631003, HO_640003, BK630, BK639, HB⟩ := hcut
     cases kq with
     | zero => exact absurd HA.out (by simp [laws_FnExprRound.j1])
     | succ kj9 =>
      have H := HA.out
      clear HA
      simp only [laws_FnExprRound.j1] at H
      by_cases c27 : x63_9 = true
      ·subst c27
       rw [if_pos rfl] at H
       by_cases c28 : (t645 == t642) = true
       ·rw [if_pos c28] at H
        have c28b0 : (t645 == t642) = true := c28
        (try (have c28b1 : decide (t645 = t642) = true := by simpa using c28))
        (try (have c28b2 : (t645 == t642) = true := by simpa using c28))
        clear c28
        by_cases c29 : t643 = t640
        ·rw [if_pos c29] at H
         have c29b0 : (t643 == t640) = true := beq_iff_eq.mpr c29
         have c29b1 : (t643 != t640) = false := bne_eq_false_iff_eq.mpr c29
         clear c29
         obtain rfl := Option.some.inj H
         go_wp2
         go_ret
         exact ⟨by first | rfl | (simp [errW_none, errW_some] <;> rfl) | (simp [*, errW_none, errW_some] <;> rfl), hzs HB⟩
        ·rw [if_neg c29] at H
         have c29b0 : (t643 == t640) = false := beq_eq_false_iff_ne.mpr c29
         have c29b1 : (t643 != t640) = true := bne_iff_ne.mpr c29
         obtain rfl := Option.some.inj H
         go_wp2
         go_ret
         exact ⟨by first | rfl | (simp [errW_none, errW_some] <;> rfl) | (simp [*, errW_none, errW_some] <;> rfl), hzs HB⟩
       ·rw [if_neg c28] at H
        have c28b0 : (t645 == t642) = false := by simpa using c28
        (try (have c28b1 : decide (t645 = t642) = false := by simpa using c28))
        (try (have c28b2 : (t645 == t642) = false := by simpa using c28))
        (try (have c28b3 : ¬ (t645 = t642) := by simpa using c28))
        clear c28
        obtain rfl := Option.some.inj H
        go_wp2
        go_ret
        exact ⟨by first | rfl | (simp [errW_none, errW_some] <;> rfl) | (simp [*, errW_none, errW_some] <;> rfl), hzs HB⟩
      ·replace c27 := Bool.eq_false_iff.mpr c27
       subst c27
       rw [if_neg (show ¬ (false = true) by decide)] at H
       replace H := Option.bind_eq_some_iff.mp H
       obtain ⟨⟨t646, t647⟩, A300, H⟩ := H
       try dsimp only at H
       have A30 := Aside0.mk A300
       clear A300
       replace H := Option.bind_eq_some_iff.mp H
       obtain ⟨⟨t648, t649⟩, A310, H⟩ := H
       try dsimp only at H
       have A31 := Aside0.mk A310
       clear A310
       by_cases c32 : t647 = true
       ·subst c32
        rw [if_pos rfl] at H
        by_cases c33 : t649 = true
        ·subst c33
         rw [if_pos rfl] at H
         obtain rfl := Option.some.inj H
         have hnb34 := NB630_639.out
         have hnc34 := NB639_630.out
         obtain ⟨hcz35_0, hcz35_1, hcz35_2, hcz35_3, hfz35_0, hfz35_1, hfz35_2, hfz35_3⟩ := cz4 BK630
         go_wp2_with (first | ((with_reducible refine gate_callee (f := 17) rfl ?_); refine gL 81 Try.func17 #[.agg #[.int .i64 t624, .int .i64 t625, .int .i64 t626, .slice Ao14 t627.length co14], .int .i64 t637, .int .i64 t638] ?_; (with_reducible refine (impl_ExprRound.calls kj9 t624 t625 t626 _ _ t627 t637 t638 t646 true _ ?side1 ?side2 A30.out).mono ?_); (case side1 => repeat (first | exact (Kd.N_reads' HO_631003.out).2.2 | (with_reducible refine Kd.C_alloc ?_ _) | (with_reducible refine Kd.C_drewN ?_ _) | (with_reducible refine Kd.C_drew ?_))); (case side2 => exact (Kd.N_reads' HO_631003.out).2.1); rintro e w36 ⟨rfl, hb⟩; refine ⟨_, rfl, ?_⟩; replace HO_631003 := Aside0.mk (Kd.N_below (by (with_reducible repeat (first | apply Kd.N_alloc | apply Kd.N_drewN | apply Kd.N_drew)); exact HO_631003.out) hb); replace HO_640003 := Aside0.mk (Kd.N_below (by (with_reducible repeat (first | apply Kd.N_alloc | apply Kd.N_drewN | apply Kd.N_drew)); exact HO_640003.out) hb); replace BK630 := bb (bk BK630) hb; replace BK639 := bb (bk BK639) hb; replace HB := hbb (hzs HB) hb; clear hb) | ((with_reducible refine gate_callee (f := 29) rfl ?_); refine gL 91 Try.func29 #[.int .i64 (wrap64 (t643 * 1000000000)), .int .i64 (wrap64 (t644 * t637)), .int .i64 t638] ?_; (with_reducible refine (impl_NumRound.calls (wrap64 (t643 * 1000000000)) (wrap64 (t644 * t637)) t638 t648 true _ A31.out).mono ?_); rintro e w' ⟨rfl, ⟨nd, rfl⟩⟩; refine ⟨_, rfl, ?_⟩))
         go_ret
         exact ⟨by first | rfl | (simp [errW_none, errW_some] <;> rfl) | (simp [*, errW_none, errW_some] <;> rfl), hzs HB⟩
        ·replace c33 := Bool.eq_false_iff.mpr c33
         subst c33
         rw [if_neg (show ¬ (false = true) by decide)] at H
         obtain rfl := Option.some.inj H
         have hnb37 := NB630_639.out
         have hnc37 := NB639_630.out
         obtain ⟨hcz38_0, hcz38_1, hcz38_2, hcz38_3, hfz38_0, hfz38_1, hfz38_2, hfz38_3⟩ := cz4 BK630
         go_wp2_with (first | ((with_reducible refine gate_callee (f := 17) rfl ?_); refine gL 81 Try.func17 #[.agg #[.int .i64 t624, .int .i64 t625, .int .i64 t626, .slice Ao14 t627.length co14], .int .i64 t637, .int .i64 t638] ?_; (with_reducible refine (impl_ExprRound.calls kj9 t624 t625 t626 _ _ t627 t637 t638 t646 true _ ?side1 ?side2 A30.out).mono ?_); (case side1 => repeat (first | exact (Kd.N_reads' HO_631003.out).2.2 | (with_reducible refine Kd.C_alloc ?_ _) | (with_reducible refine Kd.C_drewN ?_ _) | (with_reducible refine Kd.C_drew ?_))); (case side2 => exact (Kd.N_reads' HO_631003.out).2.1); rintro e w39 ⟨rfl, hb⟩; refine ⟨_, rfl, ?_⟩; replace HO_631003 := Aside0.mk (Kd.N_below (by (with_reducible repeat (first | apply Kd.N_alloc | apply Kd.N_drewN | apply Kd.N_drew)); exact HO_631003.out) hb); replace HO_640003 := Aside0.mk (Kd.N_below (by (with_reducible repeat (first | apply Kd.N_alloc | apply Kd.N_drewN | apply Kd.N_drew)); exact HO_640003.out) hb); replace BK630 := bb (bk BK630) hb; replace BK639 := bb (bk BK639) hb; replace HB := hbb (hzs HB) hb; clear hb) | ((with_reducible refine gate_callee (f := 29) rfl ?_); refine gL 91 Try.func29 #[.int .i64 (wrap64 (t643 * 1000000000)), .int .i64 (wrap64 (t644 * t637)), .int .i64 t638] ?_; (with_reducible refine (impl_NumRound.calls (wrap64 (t643 * 1000000000)) (wrap64 (t644 * t637)) t638 t648 false _ A31.out).mono ?_); rintro e w' ⟨rfl, ⟨nd, rfl⟩⟩; refine ⟨_, rfl, ?_⟩))
         go_ret
         exact ⟨by first | rfl | (simp [errW_none, errW_some] <;> rfl) | (simp [*, errW_none, errW_some] <;> rfl), hzs HB⟩
       ·replace c32 := Bool.eq_false_iff.mpr c32
        subst c32
        rw [if_neg (show ¬ (false = true) by decide)] at H
        obtain rfl := Option.some.inj H
        have hnb40 := NB630_639.out
        have hnc40 := NB639_630.out
        obtain ⟨hcz41_0, hcz41_1, hcz41_2, hcz41_3, hfz41_0, hfz41_1, hfz41_2, hfz41_3⟩ := cz4 BK630
        go_wp2_with (first | ((with_reducible refine gate_callee (f := 17) rfl ?_); refine gL 81 Try.func17 #[.agg #[.int .i64 t624, .int .i64 t625, .int .i64 t626, .slice Ao14 t627.length co14], .int .i64 t637, .int .i64 t638] ?_; (with_reducible refine (impl_ExprRound.calls kj9 t624 t625 t626 _ _ t627 t637 t638 t646 false _ ?side1 ?side2 A30.out).mono ?_); (case side1 => repeat (first | exact (Kd.N_reads' HO_631003.out).2.2 | (with_reducible refine Kd.C_alloc ?_ _) | (with_reducible refine Kd.C_drewN ?_ _) | (with_reducible refine Kd.C_drew ?_))); (case side2 => exact (Kd.N_reads' HO_631003.out).2.1); rintro e w42 ⟨rfl, hb⟩; refine ⟨_, rfl, ?_⟩; replace HO_631003 := Aside0.mk (Kd.N_below (by (with_reducible repeat (first | apply Kd.N_alloc | apply Kd.N_drewN | apply Kd.N_drew)); exact HO_631003.out) hb); replace HO_640003 := Aside0.mk (Kd.N_below (by (with_reducible repeat (first | apply Kd.N_alloc | apply Kd.N_drewN | apply Kd.N_drew)); exact HO_640003.out) hb); replace BK630 := bb (bk BK630) hb; replace BK639 := bb (bk BK639) hb; replace HB := hbb (hzs HB) hb; clear hb) | ((with_reducible refine gate_callee (f := 29) rfl ?_); refine gL 91 Try.func29 #[.int .i64 (wrap64 (t643 * 1000000000)), .int .i64 (wrap64 (t644 * t637)), .int .i64 t638] ?_; (with_reducible refine (impl_NumRound.calls (wrap64 (t643 * 1000000000)) (wrap64 (t644 * t637)) t638 t648 t649 _ A31.out).mono ?_); rintro e w' ⟨rfl, ⟨nd, rfl⟩⟩; refine ⟨_, rfl, ?_⟩))
        go_ret
        exact ⟨by first | rfl | (simp [errW_none, errW_some] <;> rfl) | (simp [*, errW_none, errW_some] <;> rfl), hzs HB⟩


theorem drawExprRat_tells {l : List Int} (hl : Bytes l) {k : Nat} (hk : 1400 ≤ k) : ∃ f0 f1 f2 m, spec_DrawExprRat.f k l = some (f0, f1, f2, m) ∧ nodes ⟨f0, f1, f2, m⟩ ≤ 63 := by
 unfold spec_DrawExprRat.f
 obtain ⟨b, h1, h2, h3⟩ := open_tells hl
 rw [h1]; simp only [Option.bind_some]
 obtain ⟨v, r1, r2, r3⟩ := pick_tells h2 h3 (show (0 : Int) ≤ 0 by omega) (by omega) (show (8 : Int) < 1073741824 by omega) (k := k) (by omega)
 rw [r1]; simp only [Option.bind_some]
 obtain ⟨g0, g1, g2, m, p, q1, q2, q3, q4⟩ := bent_tells h2 h3 (decide (v > 0)) (show (0 : Int) ≤ 0 + 1 by omega) (by omega) (k := k) (by omega)
 rw [q1]; simp only [Option.bind_some]
 exact ⟨_, _, _, _, rfl, q2⟩
theorem way_tells {b : List Int} (hb : Bytes b) (hl : b.length ≤ 2000) {p : Int} (hp : 0 ≤ p) (hp2 : p < 999000) {k : Nat} (hk : 20 ≤ k) : ∃ v p', spec_l71Way.f k b p = some (v, p') := by
 unfold spec_l71Way.f
 obtain ⟨v, s1, s2, s3⟩ := pick_tells hb hl hp (by omega) (show (20 : Int) < 1073741824 by omega) (k := k) (by omega)
 rw [s1]; simp only [Option.bind_some]
 obtain ⟨x, t1, t2, t3⟩ := pick_tells hb hl (show 0 ≤ p + 1 by omega) (by omega) (show (3 : Int) < 1073741824 by omega) (k := k) (by omega)
 obtain ⟨y, u1, u2, u3⟩ := pick_tells hb hl (show 0 ≤ p + 1 by omega) (by omega) (show (4 : Int) < 1073741824 by omega) (k := k) (by omega)
 rw [t1, u1]; simp only [Option.bind_some]
 by_cases c0 : v = 0
 ·rw [if_pos c0, if_pos t2, if_pos (by simp; omega)]; exact ⟨_, _, rfl⟩
 ·rw [if_neg c0]; exact ⟨_, _, rfl⟩
theorem drawExprRound_tells {l : List Int} (hl : Bytes l) {k : Nat} (hk : 1400 ≤ k) : ∃ f0 f1 f2 m parts way, spec_DrawExprRound.f k l = some (f0, f1, f2, m, parts, way) ∧ nodes ⟨f0, f1, f2, m⟩ ≤ 63 := by
 unfold spec_DrawExprRound.f
 obtain ⟨b, h1, h2, h3⟩ := open_tells hl
 rw [h1]; simp only [Option.bind_some]
 obtain ⟨g0, g1, g2, m, p, q1, q2, q3, q4⟩ := bent_tells h2 h3 false (show (0 : Int) ≤ 0 by omega) (by omega) (k := k) (by omega)
 rw [q1]; simp only [Option.bind_some]
 obtain ⟨v, s1, s2, s3⟩ := pick_tells h2 h3 q3 (by omega) (show (6 : Int) < 1073741824 by omega) (k := k) (by omega)
 rw [s1]; simp only [Option.bind_some]
 rw [if_pos s2, if_pos (by simp; omega)]
 obtain ⟨x, p2, t1⟩ := way_tells h2 h3 (show 0 ≤ p + 1 by omega) (by omega) (k := k) (by omega)
 rw [t1]; simp only [Option.bind_some]
 exact ⟨_, _, _, _, _, _, rfl, q2⟩
/-! ### what is reckoned exactly lies in the span -/
def Within (s : Int × Int) (a b : Int) : Prop := 0 < b ∧ s.1 * b ≤ a * 1000000000 ∧ a * 1000000000 ≤ s.2 * b
theorem least1_eq {a b : Int} (hb : 0 < b) (h : (least1 a b).2.2 = true) : 0 < (least1 a b).2.1 ∧ (least1 a b).1 * b = a * (least1 a b).2.1 := by
 obtain ⟨g, d1, d2, p⟩ := least_bd (a := a) hb
 unfold least1 at h ⊢
 by_cases c : isNum (a / (Int.gcd a b : Int)) (b / (Int.gcd a b : Int))
 ·rw [if_pos c]
  generalize (Int.gcd a b : Int) = q at *
  obtain ⟨x, rfl⟩ := d1
  obtain ⟨y, rfl⟩ := d2
  show 0 < q * y / q ∧ q * x / q * (q * y) = q * x * (q * y / q)
  rw [Int.mul_ediv_cancel_left _ (by omega), Int.mul_ediv_cancel_left _ (by omega)] at *
  exact ⟨p, by rw [Int.mul_left_comm, Int.mul_assoc]⟩
 ·rw [if_neg c] at h; cases h
theorem leastM_eq {a b : Int} (h : (leastM a b).2.2 = true) : b ≠ 0 ∧ 0 < (leastM a b).2.1 ∧ (leastM a b).1 * b = a * (leastM a b).2.1 := by
 unfold leastM at h ⊢
 by_cases c : b = 0
 ·rw [if_pos c] at h; cases h
 rw [if_neg c] at h ⊢
 refine ⟨c, ?_⟩
 by_cases d : b < 0
 ·rw [if_pos d] at h ⊢
  have e := least1_eq (a := -a) (b := -b) (by omega) h
  refine ⟨e.1, ?_⟩
  have := e.2
  rw [Int.mul_neg, Int.neg_mul] at this
  omega
 ·rw [if_neg d] at h ⊢
  exact least1_eq (by omega) h
/-- What lies between ends over one denominator lies so over another. -/
theorem within_of {s : Int × Int} {p q a b : Int} (hq : 0 < q) (hb : 0 < b) (h : a * q = p * b) (h1 : s.1 * q ≤ p * 1000000000) (h2 : p * 1000000000 ≤ s.2 * q) : Within s a b := by
 refine ⟨hb, ?_, ?_⟩
 ·refine Int.le_of_mul_le_mul_right (a := q) ?_ hq
  have e1 : s.1 * b * q = s.1 * q * b := Int.mul_right_comm ..
  have e2 : a * 1000000000 * q = p * 1000000000 * b := by rw [Int.mul_right_comm a, h, Int.mul_right_comm]
  rw [e1, e2]
  exact Int.mul_le_mul_of_nonneg_right h1 (by omega)
 ·refine Int.le_of_mul_le_mul_right (a := q) ?_ hq
  have e1 : s.2 * b * q = s.2 * q * b := Int.mul_right_comm ..
  have e2 : a * 1000000000 * q = p * 1000000000 * b := by rw [Int.mul_right_comm a, h, Int.mul_right_comm]
  rw [e1, e2]
  exact Int.mul_le_mul_of_nonneg_right h2 (by omega)
theorem within_of_neg {s : Int × Int} {p q a b : Int} (hq : q < 0) (hb : 0 < b) (h : a * q = p * b) (h1 : s.1 * -q ≤ -p * 1000000000) (h2 : -p * 1000000000 ≤ s.2 * -q) : Within s a b :=
 within_of (p := -p) (q := -q) (by omega) hb (by rw [Int.mul_neg, Int.neg_mul, h]) h1 h2
theorem mul_between {x l h y m n : Int} (h1 : l ≤ x) (h2 : x ≤ h) (h3 : m ≤ y) (h4 : y ≤ n) : min4 (l * m) (l * n) (h * m) (h * n) ≤ x * y ∧ x * y ≤ max4 (l * m) (l * n) (h * m) (h * n) := by
 have step (z : Int) : (l * z ≤ x * z ∧ x * z ≤ h * z) ∨ (h * z ≤ x * z ∧ x * z ≤ l * z) := by
  rcases Int.le_total 0 z with c | c
  ·exact .inl ⟨Int.mul_le_mul_of_nonneg_right h1 c, Int.mul_le_mul_of_nonneg_right h2 c⟩
  ·exact .inr ⟨Int.mul_le_mul_of_nonpos_right h2 c, Int.mul_le_mul_of_nonpos_right h1 c⟩
 have s1 := step m
 have s2 := step n
 have s3 : (x * m ≤ x * y ∧ x * y ≤ x * n) ∨ (x * n ≤ x * y ∧ x * y ≤ x * m) := by
  rcases Int.le_total 0 x with c | c
  ·exact .inl ⟨Int.mul_le_mul_of_nonneg_left h3 c, Int.mul_le_mul_of_nonneg_left h4 c⟩
  ·exact .inr ⟨Int.mul_le_mul_of_nonpos_left c h4, Int.mul_le_mul_of_nonpos_left c h3⟩
 unfold min4 max4
 omega
theorem min4_mul (p q r s : Int) {c : Int} (hc : 0 ≤ c) : min4 p q r s * c ≤ p * c ∧ min4 p q r s * c ≤ q * c ∧ min4 p q r s * c ≤ r * c ∧ min4 p q r s * c ≤ s * c := by
 refine ⟨Int.mul_le_mul_of_nonneg_right ?_ hc, Int.mul_le_mul_of_nonneg_right ?_ hc, Int.mul_le_mul_of_nonneg_right ?_ hc, Int.mul_le_mul_of_nonneg_right ?_ hc⟩ <;> unfold min4 <;> omega
theorem max4_mul (p q r s : Int) {c : Int} (hc : 0 ≤ c) : p * c ≤ max4 p q r s * c ∧ q * c ≤ max4 p q r s * c ∧ r * c ≤ max4 p q r s * c ∧ s * c ≤ max4 p q r s * c := by
 refine ⟨Int.mul_le_mul_of_nonneg_right ?_ hc, Int.mul_le_mul_of_nonneg_right ?_ hc, Int.mul_le_mul_of_nonneg_right ?_ hc, Int.mul_le_mul_of_nonneg_right ?_ hc⟩ <;> unfold max4 <;> omega
theorem mul4 (a b c d : Int) : a * b * (c * d) = a * c * (b * d) := by
 rw [Int.mul_assoc, Int.mul_assoc, Int.mul_left_comm b]
theorem mul_within {s t : Int × Int} {a1 b1 a2 b2 : Int} (h1 : Within s a1 b1) (h2 : Within t a2 b2) : (mulM s t).1 * (b1 * b2) ≤ a1 * a2 * 1000000000 ∧ a1 * a2 * 1000000000 ≤ (mulM s t).2 * (b1 * b2) := by
 obtain ⟨p1, l1, u1⟩ := h1
 obtain ⟨p2, l2, u2⟩ := h2
 have q : 0 < b1 * b2 := Int.mul_pos p1 p2
 obtain ⟨m1, m2⟩ := mul_between l1 u1 l2 u2
 have e : a1 * 1000000000 * (a2 * 1000000000) = a1 * a2 * 1000000000 * 1000000000 := by rw [mul4, ← Int.mul_assoc]
 rw [e] at m1 m2
 have e1 := mul4 s.1 b1 t.1 b2
 have e2 := mul4 s.1 b1 t.2 b2
 have e3 := mul4 s.2 b1 t.1 b2
 have e4 := mul4 s.2 b1 t.2 b2
 rw [e1, e2, e3, e4] at m1 m2
 unfold mulM
 obtain ⟨x1, x2, x3, x4⟩ := min4_mul (s.1 * t.1) (s.1 * t.2) (s.2 * t.1) (s.2 * t.2) (c := b1 * b2) (by omega)
 obtain ⟨y1, y2, y3, y4⟩ := max4_mul (s.1 * t.1) (s.1 * t.2) (s.2 * t.1) (s.2 * t.2) (c := b1 * b2) (by omega)
 generalize min4 (s.1 * t.1) (s.1 * t.2) (s.2 * t.1) (s.2 * t.2) = mi at *
 generalize max4 (s.1 * t.1) (s.1 * t.2) (s.2 * t.1) (s.2 * t.2) = ma at *
 have lo : mi * (b1 * b2) ≤ a1 * a2 * 1000000000 * 1000000000 := by refine Int.le_trans ?_ m1; unfold min4; omega
 have hi : a1 * a2 * 1000000000 * 1000000000 ≤ ma * (b1 * b2) := by refine Int.le_trans m2 ?_; unfold max4; omega
 have d := dn_le (a := mi) (b := 1000000000) (by omega)
 have u := upd_ge (a := ma) (b := 1000000000) (by omega)
 have d2 := Int.mul_le_mul_of_nonneg_right d (show 0 ≤ b1 * b2 by omega)
 have u2 := Int.mul_le_mul_of_nonneg_right u (show 0 ≤ b1 * b2 by omega)
 rw [Int.mul_right_comm] at d2
 rw [Int.mul_right_comm (upd ma 1000000000)] at u2
 dsimp only
 constructor
 ·refine Int.le_of_mul_le_mul_right (a := 1000000000) ?_ (by omega)
  omega
 ·refine Int.le_of_mul_le_mul_right (a := 1000000000) ?_ (by omega)
  omega
theorem div_within {s t : Int × Int} {a1 b1 a2 b2 : Int} (h1 : Within s a1 b1) (h2 : Within t a2 b2) (ht : 0 < t.1) (ht2 : t.1 ≤ t.2) :
  0 < a2 ∧ min (s.1 * 1000000000 / t.1) (s.1 * 1000000000 / t.2) * (a2 * b1) ≤ a1 * b2 * 1000000000 ∧ a1 * b2 * 1000000000 ≤ max (upd (s.2 * 1000000000) t.1) (upd (s.2 * 1000000000) t.2) * (a2 * b1) := by
 obtain ⟨p1, l1, u1⟩ := h1
 obtain ⟨p2, l2, u2⟩ := h2
 have tp : 0 < t.1 * b2 := Int.mul_pos ht p2
 have ap : 0 < a2 := by omega
 have d1 := dn_le (a := s.1 * 1000000000) (b := t.1) ht
 have d2 := dn_le (a := s.1 * 1000000000) (b := t.2) (by omega)
 have v1 := upd_ge (a := s.2 * 1000000000) (b := t.1) ht
 have v2 := upd_ge (a := s.2 * 1000000000) (b := t.2) (by omega)
 have lo : ∀ z : Int, z ≤ s.1 * 1000000000 / t.1 → z ≤ s.1 * 1000000000 / t.2 → z * a2 ≤ s.1 * b2 := by
  intro z z1 z2
  refine Int.le_of_mul_le_mul_right (a := 1000000000) ?_ (by omega)
  rw [Int.mul_assoc, Int.mul_right_comm s.1]
  rcases Int.le_total 0 z with c | c
  ·have x1 : z * (a2 * 1000000000) ≤ z * (t.2 * b2) := Int.mul_le_mul_of_nonneg_left u2 c
   have x2 : z * t.2 ≤ s.1 * 1000000000 := by
    have := Int.mul_le_mul_of_nonneg_right z2 (show 0 ≤ t.2 by omega)
    omega
   have x3 := Int.mul_le_mul_of_nonneg_right x2 (show 0 ≤ b2 by omega)
   rw [Int.mul_assoc] at x3
   omega
  ·have x1 : z * (a2 * 1000000000) ≤ z * (t.1 * b2) := Int.mul_le_mul_of_nonpos_left c l2
   have x2 : z * t.1 ≤ s.1 * 1000000000 := by
    have := Int.mul_le_mul_of_nonneg_right z1 (show 0 ≤ t.1 by omega)
    omega
   have x3 := Int.mul_le_mul_of_nonneg_right x2 (show 0 ≤ b2 by omega)
   rw [Int.mul_assoc] at x3
   omega
 have hi : ∀ z : Int, upd (s.2 * 1000000000) t.1 ≤ z → upd (s.2 * 1000000000) t.2 ≤ z → s.2 * b2 ≤ z * a2 := by
  intro z z1 z2
  refine Int.le_of_mul_le_mul_right (a := 1000000000) ?_ (by omega)
  rw [Int.mul_assoc z, Int.mul_right_comm s.2]
  rcases Int.le_total 0 z with c | c
  ·have x1 : z * (t.1 * b2) ≤ z * (a2 * 1000000000) := Int.mul_le_mul_of_nonneg_left l2 c
   have x2 : s.2 * 1000000000 ≤ z * t.1 := by
    have := Int.mul_le_mul_of_nonneg_right z1 (show 0 ≤ t.1 by omega)
    omega
   have x3 := Int.mul_le_mul_of_nonneg_right x2 (show 0 ≤ b2 by omega)
   rw [Int.mul_assoc z] at x3
   omega
  ·have x1 : z * (t.2 * b2) ≤ z * (a2 * 1000000000) := Int.mul_le_mul_of_nonpos_left c u2
   have x2 : s.2 * 1000000000 ≤ z * t.2 := by
    have := Int.mul_le_mul_of_nonneg_right z2 (show 0 ≤ t.2 by omega)
    omega
   have x3 := Int.mul_le_mul_of_nonneg_right x2 (show 0 ≤ b2 by omega)
   rw [Int.mul_assoc z] at x3
   omega
 refine ⟨ap, ?_, ?_⟩
 ·have x := lo (min (s.1 * 1000000000 / t.1) (s.1 * 1000000000 / t.2)) (by omega) (by omega)
  have y := Int.mul_le_mul_of_nonneg_right x (show 0 ≤ b1 by omega)
  have z := Int.mul_le_mul_of_nonneg_right l1 (show 0 ≤ b2 by omega)
  rw [Int.mul_right_comm s.1] at z
  rw [Int.mul_right_comm a1] at z
  rw [Int.mul_assoc] at y
  omega
 ·have x := hi (max (upd (s.2 * 1000000000) t.1) (upd (s.2 * 1000000000) t.2)) (by omega) (by omega)
  have y := Int.mul_le_mul_of_nonneg_right x (show 0 ≤ b1 by omega)
  have z := Int.mul_le_mul_of_nonneg_right u1 (show 0 ≤ b2 by omega)
  rw [Int.mul_right_comm s.2] at z
  rw [Int.mul_right_comm a1] at z
  rw [Int.mul_assoc (max _ _)] at y
  omega
theorem within_neg {s : Int × Int} {a b : Int} (h : Within s a b) : Within (negM s) (-a) b := by
 obtain ⟨p, l, u⟩ := h
 refine ⟨p, ?_, ?_⟩
 ·show -s.2 * b ≤ -a * 1000000000
  rw [Int.neg_mul]; omega
 ·show -a * 1000000000 ≤ -s.1 * b
  rw [Int.neg_mul s.1]; omega
theorem fit_in {lo hi : Int} (h : (fitR lo hi).2.2 = true) : (fitR lo hi).1 = lo ∧ (fitR lo hi).2.1 = hi := by
 unfold fitR at h ⊢
 split
 ·exact ⟨rfl, rfl⟩
 ·rename_i c; rw [if_neg c] at h; cases h
theorem op_within {f0 f1 f2 : Int} {s t : Int × Int} {a1 b1 a2 b2 : Int} (hs : f0 = 2 ∨ 5 ≤ f0 → Within s a1 b1) (ht : 5 ≤ f0 → Within t a2 b2) (ho : t.1 ≤ t.2) (hr : (ratOp f0 f1 f2 (a1, b1) (a2, b2)).2.2 = true) (hp : (opM f0 f1 f2 s t).2.2 = true) :
  Within (pairOf (opM f0 f1 f2 s t)) (ratOp f0 f1 f2 (a1, b1) (a2, b2)).1 (ratOp f0 f1 f2 (a1, b1) (a2, b2)).2.1 := by
 unfold ratOp at hr ⊢
 unfold opM at hp ⊢
 by_cases c1 : f0 = 1
 ·rw [if_pos c1] at hr hp ⊢
  rw [if_pos c1]
  obtain ⟨-, e1, e2⟩ := leastM_eq hr
  unfold ofR at hp ⊢
  by_cases n : isNum f1 f2
  ·rw [if_pos n] at hp ⊢
   obtain ⟨y1, y2⟩ := fit_in hp
   have np : 0 < f2 := by have := n.2.1; omega
   refine within_of np e1 e2 ?_ ?_
   ·show (fitR _ _).1 * f2 ≤ _
    rw [y1]; exact dn_le np
   ·show _ ≤ (fitR _ _).2.1 * f2
    rw [y2]; exact upd_ge np
  ·rw [if_neg n] at hp; cases hp
 rw [if_neg c1] at hr hp ⊢
 rw [if_neg c1]
 by_cases c2 : f0 = 2
 ·rw [if_pos c2, if_pos c2]
  exact within_neg (hs (.inl c2))
 rw [if_neg c2] at hr hp ⊢
 rw [if_neg c2]
 by_cases c5 : f0 = 5
 ·have w1 := hs (.inr (by omega))
  have w2 := ht (by omega)
  rw [if_neg (show ¬ f0 = 3 by omega), if_neg (show ¬ f0 = 4 by omega), if_pos c5] at hp ⊢
  rw [if_pos c5] at hr ⊢
  by_cases h : halfOk (a1 * b2) ∧ halfOk (a2 * b1)
  ·rw [if_pos h] at hr ⊢
   obtain ⟨-, e1, e2⟩ := leastM_eq hr
   obtain ⟨y1, y2⟩ := fit_in hp
   obtain ⟨p1, l1, u1⟩ := w1
   obtain ⟨p2, l2, u2⟩ := w2
   have z1 := Int.mul_le_mul_of_nonneg_right l1 (show 0 ≤ b2 by omega)
   have z2 := Int.mul_le_mul_of_nonneg_right u1 (show 0 ≤ b2 by omega)
   have z3 := Int.mul_le_mul_of_nonneg_right l2 (show 0 ≤ b1 by omega)
   have z4 := Int.mul_le_mul_of_nonneg_right u2 (show 0 ≤ b1 by omega)
   rw [Int.mul_assoc, Int.mul_right_comm a1] at z1
   rw [Int.mul_right_comm a1, Int.mul_assoc s.2] at z2
   rw [Int.mul_assoc, Int.mul_right_comm a2, Int.mul_comm b2 b1] at z3
   rw [Int.mul_right_comm a2, Int.mul_assoc t.2, Int.mul_comm b2 b1] at z4
   refine within_of (p := a1 * b2 + a2 * b1) (q := b1 * b2) (Int.mul_pos p1 p2) e1 e2 ?_ ?_
   ·show (fitR _ _).1 * _ ≤ _
    rw [y1, Int.add_mul]; omega
   ·show _ ≤ (fitR _ _).2.1 * _
    rw [y2, Int.add_mul s.2]; omega
  ·rw [if_neg h] at hr; cases hr
 rw [if_neg c5] at hr ⊢
 by_cases c6 : f0 = 6
 ·have w1 := hs (.inr (by omega))
  have w2 := ht (by omega)
  rw [if_neg (show ¬ f0 = 3 by omega), if_neg (show ¬ f0 = 4 by omega), if_neg c5, if_pos c6] at hp ⊢
  rw [if_pos c6] at hr ⊢
  by_cases h : halfOk (a1 * b2) ∧ halfOk (a2 * b1)
  ·rw [if_pos h] at hr ⊢
   obtain ⟨-, e1, e2⟩ := leastM_eq hr
   obtain ⟨y1, y2⟩ := fit_in hp
   obtain ⟨p1, l1, u1⟩ := w1
   obtain ⟨p2, l2, u2⟩ := w2
   have z1 := Int.mul_le_mul_of_nonneg_right l1 (show 0 ≤ b2 by omega)
   have z2 := Int.mul_le_mul_of_nonneg_right u1 (show 0 ≤ b2 by omega)
   have z3 := Int.mul_le_mul_of_nonneg_right l2 (show 0 ≤ b1 by omega)
   have z4 := Int.mul_le_mul_of_nonneg_right u2 (show 0 ≤ b1 by omega)
   rw [Int.mul_assoc, Int.mul_right_comm a1] at z1
   rw [Int.mul_right_comm a1, Int.mul_assoc s.2] at z2
   rw [Int.mul_assoc, Int.mul_right_comm a2, Int.mul_comm b2 b1] at z3
   rw [Int.mul_right_comm a2, Int.mul_assoc t.2, Int.mul_comm b2 b1] at z4
   refine within_of (p := a1 * b2 - a2 * b1) (q := b1 * b2) (Int.mul_pos p1 p2) e1 e2 ?_ ?_
   ·show (fitR _ _).1 * _ ≤ _
    rw [y1, Int.sub_mul]; omega
   ·show _ ≤ (fitR _ _).2.1 * _
    rw [y2, Int.sub_mul s.2]; omega
  ·rw [if_neg h] at hr; cases hr
 rw [if_neg c6] at hr ⊢
 by_cases c7 : f0 = 7
 ·have w1 := hs (.inr (by omega))
  have w2 := ht (by omega)
  rw [if_neg (show ¬ f0 = 3 by omega), if_neg (show ¬ f0 = 4 by omega), if_neg c5, if_neg c6, if_pos c7] at hp ⊢
  rw [if_pos c7] at hr ⊢
  obtain ⟨-, e1, e2⟩ := leastM_eq hr
  obtain ⟨y1, y2⟩ := fit_in hp
  obtain ⟨m1, m2⟩ := mul_within w1 w2
  refine within_of (Int.mul_pos w1.1 w2.1) e1 e2 ?_ ?_
  ·show (fitR _ _).1 * _ ≤ _
   rw [y1]; exact m1
  ·show _ ≤ (fitR _ _).2.1 * _
   rw [y2]; exact m2
 rw [if_neg c7] at hr ⊢
 by_cases c8 : f0 = 8
 ·have w1 := hs (.inr (by omega))
  have w2 := ht (by omega)
  rw [if_neg (show ¬ f0 = 3 by omega), if_neg (show ¬ f0 = 4 by omega), if_neg c5, if_neg c6, if_neg c7] at hp ⊢
  rw [if_pos c8] at hr ⊢
  obtain ⟨-, e1, e2⟩ := leastM_eq hr
  unfold divR at hp ⊢
  by_cases z : t.1 ≤ 0 ∧ 0 ≤ t.2
  ·rw [if_pos z] at hp; cases hp
  rw [if_neg z] at hp ⊢
  by_cases g : t.2 < 0
  ·rw [if_pos g] at hp ⊢
   obtain ⟨y1, y2⟩ := fit_in hp
   obtain ⟨q, m1, m2⟩ := div_within (within_neg w1) (within_neg w2) (show 0 < (negM t).1 by show 0 < -t.2; omega) (show -t.2 ≤ -t.1 by omega)
   have qq : 0 < -a2 * b1 := Int.mul_pos q w1.1
   rw [Int.neg_mul] at qq
   refine within_of_neg (p := a1 * b2) (q := a2 * b1) (by omega) e1 e2 ?_ ?_
   ·show (fitR _ _).1 * _ ≤ _
    rw [y1, ← Int.neg_mul, ← Int.neg_mul a1]; exact m1
   ·show _ ≤ (fitR _ _).2.1 * _
    rw [y2, ← Int.neg_mul a2, ← Int.neg_mul a1]; exact m2
  ·rw [if_neg g] at hp ⊢
   obtain ⟨y1, y2⟩ := fit_in hp
   obtain ⟨q, m1, m2⟩ := div_within w1 w2 (by omega) ho
   refine within_of (Int.mul_pos q w1.1) e1 e2 ?_ ?_
   ·show (fitR _ _).1 * _ ≤ _
    rw [y1]; exact m1
   ·show _ ≤ (fitR _ _).2.1 * _
    rw [y2]; exact m2
 ·rw [if_neg c8] at hr; cases hr
theorem rat_within (N : Nat) : ∀ e : S25, nodes e ≤ N → sizeM e ≤ 15 → (ratM e).2.2 = true → (spanM e).2.2 = true → Within ((spanM e).1, (spanM e).2.1) (ratM e).1 (ratM e).2.1 := by
 induction N with
 | zero => intro e h; have := nodes_pos e; omega
 | succ N ih =>
  intro e h hs hr hp
  obtain ⟨f0, f1, f2, l⟩ := e
  obtain ⟨hd, hz⟩ := ok_parts hs
  rw [hz] at hs
  rw [nodes] at h
  obtain ⟨hf, hn⟩ := kind_of hd.1
  obtain ⟨k0, k1, k2⟩ := kinds_n hd.1
  match l, hs, h, hn, k0, k1, k2, hr, hp with
  | [], hs, h, hn, k0, k1, k2, hr, hp =>
   have f := k0 rfl
   rw [rat_0] at hr ⊢
   rw [span_0] at hp ⊢
   exact op_within (s := (0, 0)) (t := (0, 0)) (fun c => by omega) (fun c => by omega) (by decide) hr hp
  | [x], hs, h, hn, k0, k1, k2, hr, hp =>
   have f := k1 rfl
   rw [nodesL, nodesL] at h
   rw [sizeL, sizeL] at hs
   have sx := sizeM_bd x
   rw [rat_1] at hr ⊢
   rw [span_1] at hp ⊢
   by_cases c : (ratM x).2.2 = true
   ·rw [if_pos c] at hr ⊢
    by_cases d : (spanM x).2.2 = true
    ·rw [if_pos d] at hp ⊢
     exact op_within (s := ((spanM x).1, (spanM x).2.1)) (t := (0, 0)) (fun _ => ih x (by omega) (by omega) c d) (fun g => by omega) (by decide) hr hp
    ·rw [if_neg d] at hp; cases hp
   ·rw [if_neg c] at hr; cases hr
  | [x, y], hs, h, hn, k0, k1, k2, hr, hp =>
   have f := k2 rfl
   rw [nodesL, nodesL, nodesL] at h
   rw [sizeL, sizeL, sizeL] at hs
   have sx := sizeM_bd x
   have sy := sizeM_bd y
   have px := nodes_pos x
   have py := nodes_pos y
   rw [rat_2] at hr ⊢
   rw [span_2] at hp ⊢
   by_cases c : (ratM x).2.2 = true
   ·by_cases c2 : (ratM y).2.2 = true
    ·rw [if_pos c, if_pos c2] at hr ⊢
     by_cases d : (spanM x).2.2 = true
     ·by_cases d2 : (spanM y).2.2 = true
      ·rw [if_pos d, if_pos d2] at hp ⊢
       have oy := (spanM_ok y).pair d2
       exact op_within (s := ((spanM x).1, (spanM x).2.1)) (t := ((spanM y).1, (spanM y).2.1)) (fun _ => ih x (by omega) (by omega) c d) (fun _ => ih y (by omega) (by omega) c2 d2) oy.2.1 hr hp
      ·rw [if_pos d, if_neg d2] at hp; cases hp
     ·rw [if_neg d] at hp; cases hp
    ·rw [if_pos c, if_neg c2] at hr; cases hr
   ·rw [if_neg c] at hr; cases hr
  | _ :: _ :: _ :: _, _, _, hn, _, _, _, _, _ => simp at hn <;> omega
theorem ratR_within {e : S25} (hr : (ratR e).2.2 = true) (hp : (exprR e).2.2 = true) : Within ((exprR e).1, (exprR e).2.1) (ratR e).1 (ratR e).2.1 := by
 unfold ratR at hr ⊢
 unfold exprR at hp ⊢
 by_cases c : sizeM e ≤ 15
 ·rw [if_pos c] at hr hp ⊢
  rw [if_pos c]
  exact rat_within (nodes e) e (Nat.le_refl _) c hr hp
 ·rw [if_neg c] at hr; cases hr
/-! ### rounding does not turn quotients about -/
theorem dn_quot {a b c d : Int} (hb : 0 < b) (hd : 0 < d) (h : a * d ≤ c * b) : a / b ≤ c / d := by
 rw [Int.le_ediv_iff_mul_le hd]
 refine Int.le_of_mul_le_mul_right (a := b) ?_ hb
 have x := Int.mul_le_mul_of_nonneg_right (dn_le (a := a) hb) (show 0 ≤ d by omega)
 rw [Int.mul_right_comm] at x
 omega
theorem up_quot {a b c d : Int} (hb : 0 < b) (hd : 0 < d) (h : a * d ≤ c * b) : upd a b ≤ upd c d := by
 refine upd_le hb ?_
 refine Int.le_of_mul_le_mul_right (a := d) ?_ hd
 have x := Int.mul_le_mul_of_nonneg_right (upd_ge (a := c) hd) (show 0 ≤ b by omega)
 rw [Int.mul_right_comm (upd c d) b d]
 omega
theorem even_near {a b : Int} (hb : 0 < b) : ((2 * evenM a b - 1) * b ≤ 2 * a ∧ 2 * a ≤ (2 * evenM a b + 1) * b) ∧ (((2 * evenM a b - 1) * b = 2 * a ∨ 2 * a = (2 * evenM a b + 1) * b) → evenM a b % 2 = 0) := by
 have t := div_rest (a := a) (b := b) hb
 have e (z : Int) : (2 * z - 1) * b = 2 * (z * b) - b ∧ (2 * z + 1) * b = 2 * (z * b) + b := by
  rw [Int.sub_mul, Int.add_mul, Int.one_mul, Int.mul_assoc]; exact ⟨rfl, rfl⟩
 rw [(e _).1, (e _).2]
 unfold evenM
 generalize a / b = q at *
 have s : (q + 1) * b = q * b + b := by rw [Int.add_mul, Int.one_mul]
 have m : Int.tmod q 2 = 0 ↔ q % 2 = 0 := by
  constructor
  ·intro h; have := Int.dvd_of_tmod_eq_zero h; omega
  ·intro h; exact Int.tmod_eq_zero_of_dvd (by omega)
 split
 ·rw [s]; omega
 split
 ·split
  ·rename_i h; have := m.1 h; omega
  ·rename_i h; rw [s]; have : ¬ q % 2 = 0 := fun g => h (m.2 g); omega
 ·omega
theorem even_quot {a b c d : Int} (hb : 0 < b) (hd : 0 < d) (h : a * d ≤ c * b) : evenM a b ≤ evenM c d := by
 obtain ⟨⟨x1, x2⟩, x3⟩ := even_near (a := a) hb
 obtain ⟨⟨y1, y2⟩, y3⟩ := even_near (a := c) hd
 generalize evenM a b = r at *
 generalize evenM c d = s at *
 rcases Int.lt_or_le s r with g | g
 ·exfalso
  have bd : 0 < b * d := Int.mul_pos hb hd
  have u1 := Int.mul_le_mul_of_nonneg_right x1 (show 0 ≤ d by omega)
  have u2 := Int.mul_le_mul_of_nonneg_right y2 (show 0 ≤ b by omega)
  rw [Int.mul_assoc, Int.mul_assoc 2] at u1
  rw [Int.mul_assoc 2, Int.mul_assoc (2 * s + 1), Int.mul_comm d b] at u2
  have v : (2 * s + 1) * (b * d) ≤ (2 * r - 1) * (b * d) := Int.mul_le_mul_of_nonneg_right (by omega) (by omega)
  have w : (2 * r - 1) * (b * d) ≤ (2 * s + 1) * (b * d) := by omega
  have rs : 2 * r - 1 ≤ 2 * s + 1 := Int.le_of_mul_le_mul_right w bd
  have e : r = s + 1 := by omega
  have q1 : (2 * r - 1) * b = 2 * a := by
   refine Int.eq_of_mul_eq_mul_right (show d ≠ 0 by omega) ?_
   rw [Int.mul_assoc, Int.mul_assoc 2]; omega
  have q2 : 2 * c = (2 * s + 1) * d := by
   refine Int.eq_of_mul_eq_mul_right (show b ≠ 0 by omega) ?_
   rw [Int.mul_assoc 2, Int.mul_assoc (2 * s + 1), Int.mul_comm d b]; omega
  have z1 := x3 (.inl q1)
  have z2 := y3 (.inr q2)
  omega
 ·exact g
theorem trunc_quot {a b c d : Int} (hb : 0 < b) (hd : 0 < d) (h : a * d ≤ c * b) : Int.tdiv a b ≤ Int.tdiv c d := by
 rw [tdiv_is a hb, tdiv_is c hd]
 by_cases x : a < 0
 ·rw [if_pos x]
  by_cases y : c < 0
  ·rw [if_pos y]; exact up_quot hb hd h
  ·rw [if_neg y]
   have u : upd a b ≤ 0 := upd_le hb (by omega)
   have v : 0 ≤ c / d := Int.ediv_nonneg (by omega) (by omega)
   omega
 ·rw [if_neg x]
  by_cases y : c < 0
  ·exfalso
   have u := Int.mul_nonneg (show 0 ≤ a by omega) (show 0 ≤ d by omega)
   have v := Int.mul_neg_of_neg_of_pos y hb
   omega
  ·rw [if_neg y]; exact dn_quot hb hd h
theorem round_quot {a b c d : Int} (way : Int) (hb : 0 < b) (hd : 0 < d) (h : a * d ≤ c * b) : roundM a b way ≤ roundM c d way := by
 unfold roundM
 split
 ·exact up_quot hb hd h
 split
 ·exact trunc_quot hb hd h
 split
 ·exact even_quot hb hd h
 ·exact dn_quot hb hd h
theorem num_some (a b way : Int) : ∃ x y, impl_NumRound.f a b way = some (x, y) := by
 by_cases w : 1 ≤ way ∧ way ≤ 4
 ·by_cases c : (-1152921504606846976 ≤ a ∧ a ≤ 1152921504606846976) ∧ 1 ≤ b ∧ b ≤ 1152921504606846976
  ·exact ⟨_, _, NumRound_is c.1.1 c.1.2 c.2.1 c.2.2 w.1 w.2⟩
  ·unfold impl_NumRound.f impl_divides.f
   simp only [in_is, Option.bind_some]
   by_cases x : -1152921504606846976 ≤ a ∧ a ≤ 1152921504606846976
   ·by_cases y : 1 ≤ b ∧ b ≤ 1152921504606846976
    ·exact absurd ⟨x, y⟩ c
    ·exact ⟨0, false, by simp [x, y]⟩
   ·exact ⟨0, false, by simp [x]⟩
 ·exact ⟨_, _, numBad w⟩
theorem round_within {s : Int × Int} {a b parts way : Int} (h : Within s a b) (hp : 0 < parts) (e : roundM s.1 parts way = roundM s.2 parts way) : roundM (a * 1000000000) (b * parts) way = roundM s.1 parts way := by
 obtain ⟨p, l, u⟩ := h
 have q : 0 < b * parts := Int.mul_pos p hp
 have l2 := Int.mul_le_mul_of_nonneg_right l (show 0 ≤ parts by omega)
 have u2 := Int.mul_le_mul_of_nonneg_right u (show 0 ≤ parts by omega)
 rw [Int.mul_assoc] at l2
 rw [Int.mul_assoc s.2] at u2
 have r1 := round_quot way hp q l2
 have r2 := round_quot way q hp u2
 omega
theorem FnExprRound_pure {l0 l1 : List Int} (hl : Bytes l0) (hl1 : Bytes l1) {k : Nat} (hk : 3000 ≤ k) : laws_FnExprRound.f k l0 l1 = some true := by
 obtain ⟨k, rfl⟩ : ∃ q, k = q + 1 + 1 := ⟨k - 2, by omega⟩
 have main : laws_FnExprRound.j0 (k + 1 + 1) l0 l1 false = some true := by
  rw [laws_FnExprRound.j0, if_neg (show ¬ (false = true) by decide)]
  obtain ⟨f0, f1, f2, m, q, hn⟩ := drawExprRat_tells hl (k := k + 1) (by omega)
  obtain ⟨g0, g1, g2, n, parts, way, q2, hn2⟩ := drawExprRound_tells hl1 (k := k + 1) (by omega)
  rw [q, q2]; simp only [Option.bind_some]
  have e1 := ExprRat_is (e := ⟨f0, f1, f2, m⟩) (by omega) (k := k + 1) (by omega)
  dsimp only at e1
  rw [e1.1, e1.2]
  simp only [Option.bind_some, bne_self_eq_false, Bool.false_eq_true, if_false, if_true]
  rw [laws_FnExprRound.j1]
  by_cases c : (ratR ⟨f0, f1, f2, m⟩).2.2 = true
  ·have n := (ratR_ok ⟨f0, f1, f2, m⟩).num c
   have e2 := ExprRound_is (e := ⟨f0, f1, f2, m⟩) (by omega) parts way (k := k) (by omega)
   dsimp only at e2
   obtain ⟨x, y, z⟩ := num_some (wrap64 ((ratR ⟨f0, f1, f2, m⟩).1 * 1000000000)) (wrap64 ((ratR ⟨f0, f1, f2, m⟩).2.1 * parts)) way
   rw [c, Bool.not_true, if_neg (show ¬ (false = true) by decide), e2.1, z]
   simp only [Option.bind_some]
   by_cases d : (exprR ⟨f0, f1, f2, m⟩).2.2 = true
   ·have r : roundR ⟨f0, f1, f2, m⟩ parts way = sureR ((exprR ⟨f0, f1, f2, m⟩).1, (exprR ⟨f0, f1, f2, m⟩).2.1) parts way := if_pos d
    rw [r]
    unfold sureR
    by_cases g : (1 ≤ parts ∧ parts ≤ 1000000000) ∧ (1 ≤ way ∧ way ≤ 4)
    ·rw [if_pos g]
     obtain ⟨⟨p1, p2⟩, w1, w2⟩ := g
     split
     ·rename_i same
      obtain ⟨⟨⟨n1, n2⟩, n3, n4⟩, -⟩ := n
      have m1 := mul_bd (a := (ratR ⟨f0, f1, f2, m⟩).2.1) (b := parts) (A := 1000000000) (B := 1000000000) (by omega) (by omega) (by omega) (by omega)
      have m2 : 0 < (ratR ⟨f0, f1, f2, m⟩).2.1 * parts := Int.mul_pos (by omega) (by omega)
      rw [w64 (x := (ratR ⟨f0, f1, f2, m⟩).1 * 1000000000) (by omega) (by omega), w64 (x := (ratR ⟨f0, f1, f2, m⟩).2.1 * parts) (by omega) (by omega), NumRound_is (by omega) (by omega) (by omega) (by omega) w1 w2, round_within (ratR_within c d) (by omega) same] at z
      have z2 := Option.some.inj z
      obtain ⟨rfl, rfl⟩ := Prod.mk.inj z2
      simp
     ·simp
    ·rw [if_neg g]; simp
   ·have r : roundR ⟨f0, f1, f2, m⟩ parts way = (0, false) := if_neg d
    rw [r]; simp
  ·have c2 : (ratR ⟨f0, f1, f2, m⟩).2.2 = false := by simpa using c
   simp [c2]
 have bad : laws_FnExprRound.j0 (k + 1 + 1) l0 l1 true = some true := by rw [laws_FnExprRound.j0, if_pos rfl]
 unfold laws_FnExprRound.f
 by_cases h : (l0.length : Int) > 1048576
 ·rw [if_pos h, bad]
 rw [if_neg h]
 by_cases h1 : (l1.length : Int) > 1048576
 ·rw [decide_eq_true h1, bad]
 ·rw [decide_eq_false h1, main]
theorem FnExprRound_true (A0 : Option Addr) (c0 : Nat) (l0 : List Int) (A1 : Option Addr) (c1 : Nat) (l1 : List Int) (w : World) (hr0 : Kd.C (Kd.int .u8) w A0 l0.length l0) (hc0 : l0.length ≤ c0) (hw0 : ∀ x ∈ l0, (Lit.int .u8 x).wf = true) (hr1 : Kd.C (Kd.int .u8) w A1 l1.length l1) (hc1 : l1.length ≤ c1) (hw1 : ∀ x ∈ l1, (Lit.int .u8 x).wf = true) :
  Calls Try.prog 7 #[.slice A0 l0.length c0, .slice A1 l1.length c1] w fun e w' => e = .returned (.bool true) ∧ Below w.heap.size w w' :=
 laws_FnExprRound.calls 3000 A0 c0 l0 A1 c1 l1 true w hr0 hc0 hr1 hc1 (FnExprRound_pure (bytes_of hw0) (bytes_of hw1) (by omega))

end Go.Proofs.Ytlodpfddimeffaa.M
