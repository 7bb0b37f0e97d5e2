import Derived.Test.YtlodpfddimeffaaP8
import Derived.Test.YtlodpfddimeffaaDe
namespace Go.Proofs.Ytlodpfddimeffaa.M
open Go.RowKit Go.Proofs.YtlodpfddimeffaaW.PrintWords Go.Proofs.YtlodpfddimeffaaW.PrintLast Go.Proofs.YtlodpfddimeffaaW.PrintMore
attribute [local go_sem] max2_int min2_int max_two min_two max_three min_three max_four min_four
attribute [local go_sem high] eqA31
attribute [local go_sem] fld31_0 fld31_1 fld25_0 fld25_1 fld25_2 fld25_3
set_option linter.unusedVariables false
set_option linter.unusedSimpArgs false
/-! ### laws_FnExprSwap: function 13 -/
def laws_FnExprSwap.f (k : Nat) (l0 : List Int) : Option (Bool) := if (l0.length : Int) > 1048576 then (some true) else ((spec_DrawExprSpan.f k l0).bind fun bt530 => ((spec_ExprSpan.f k bt530.1 bt530.2.1 bt530.2.2.1 bt530.2.2.2).bind fun bt537 => ((impl_ExprSpan.f k bt530.1 bt530.2.1 bt530.2.2.1 bt530.2.2.2).bind fun bt541 => (if (bt541.2.2 != bt537.2.2) = true then (if (bt541.2.2 == bt537.2.2) = true then (some (bt541.1 == bt537.1 && (bt541.2.1 == bt537.2.1))) else (some false)) else (if (!(bt541.1 == bt537.1) || (!(bt541.2.1 == bt537.2.1))) = true then (if (bt541.2.2 == bt537.2.2) = true then (some (bt541.1 == bt537.1 && (bt541.2.1 == bt537.2.1))) else (some false)) else (if bt530.1 = 5 then ((spec_ExprOk.f k bt530.1 bt530.2.1 bt530.2.2.1 bt530.2.2.2).bind fun t545 => (if t545 = true then (if 1 < (bt530.2.2.2.length : Int) then (if 0 < (bt530.2.2.2.length : Int) then ((impl_ExprSpan.f k bt530.1 0 0 (([(⟨(rd_T25 bt530.2.2.2 1).f0, (rd_T25 bt530.2.2.2 1).f1, (rd_T25 bt530.2.2.2 1).f2, (rd_T25 bt530.2.2.2 1).f3⟩ : S25), (⟨(rd_T25 bt530.2.2.2 0).f0, (rd_T25 bt530.2.2.2 0).f1, (rd_T25 bt530.2.2.2 0).f2, (rd_T25 bt530.2.2.2 0).f3⟩ : S25)] : List (S25)))).bind fun bt551 => (if (bt551.2.2 == bt541.2.2) = true then (some (bt551.1 == bt541.1 && (bt551.2.1 == bt541.2.1))) else (some false))) else (none)) else (none)) else (if (bt541.2.2 == bt537.2.2) = true then (some (bt541.1 == bt537.1 && (bt541.2.1 == bt537.2.1))) else (some false)))) else (if bt530.1 = 7 then ((spec_ExprOk.f k bt530.1 bt530.2.1 bt530.2.2.1 bt530.2.2.2).bind fun t555 => (if t555 = true then (if 1 < (bt530.2.2.2.length : Int) then (if 0 < (bt530.2.2.2.length : Int) then ((impl_ExprSpan.f k bt530.1 0 0 (([(⟨(rd_T25 bt530.2.2.2 1).f0, (rd_T25 bt530.2.2.2 1).f1, (rd_T25 bt530.2.2.2 1).f2, (rd_T25 bt530.2.2.2 1).f3⟩ : S25), (⟨(rd_T25 bt530.2.2.2 0).f0, (rd_T25 bt530.2.2.2 0).f1, (rd_T25 bt530.2.2.2 0).f2, (rd_T25 bt530.2.2.2 0).f3⟩ : S25)] : List (S25)))).bind fun bt561 => (if (bt561.2.2 == bt541.2.2) = true then (some (bt561.1 == bt541.1 && (bt561.2.1 == bt541.2.1))) else (some false))) else (none)) else (none)) else (if (bt541.2.2 == bt537.2.2) = true then (some (bt541.1 == bt537.1 && (bt541.2.1 == bt537.2.1))) else (some false)))) else (if (bt541.2.2 == bt537.2.2) = true then (some (bt541.1 == bt537.1 && (bt541.2.1 == bt537.2.1))) else (some false)))))))))
def laws_FnExprSwap.T8 : Bool × List (List Nat × List Nat) := (true, [([], []), ([0], [0]), ([], []), ([2], [2]), ([3], [3]), ([4], [4]), ([], []), ([6], [6]), ([7], [7]), ([8], [8]), ([5, 9], [5, 9]), ([1, 10], [1, 10]), ([11], [11]), ([12], [12]), ([13], [13]), ([13], [13]), ([], []), ([16, 14, 12, 0, 1, 2, 3, 4, 5, 6, 7, 8, 9, 10, 11, 12, 13, 14, 16], [14, 16]), ([15, 17, 0, 1, 2, 3, 4, 5, 6, 7, 8, 9, 10, 11, 12, 13, 14, 15, 16, 17], [15])])
def laws_FnExprSwap.B8 : List Nat := [0, 1, 0, 4, 12, 28, 0, 64, 192, 448, 1020, 2047, 4095, 8191, 16383, 16383, 0, 98303, 262143]
theorem laws_FnExprSwap.tab8 : rtab .any (opsOf Try.f13 8) = laws_FnExprSwap.T8 := by kernel_rfl
theorem laws_FnExprSwap.bits8 : waitsOk laws_FnExprSwap.T8.2 laws_FnExprSwap.B8 = true := by kernel_rfl
set_option maxHeartbeats 8000000 in
set_option maxRecDepth 100000 in
theorem laws_FnExprSwap.calls (k : Nat) (A0 : Option Addr) (c0 : Nat) (l0 : List Int) (r : Bool) (w : World) (hr0 : Kd.C (Kd.int .u8) w A0 l0.length l0) (hc0 : l0.length ≤ c0) (h : laws_FnExprSwap.f k l0 = some r) (HRT : Aside0 (r = true)) :
  Calls Try.prog 13 #[.slice A0 l0.length c0] w fun e w' => e = .returned (.bool r) ∧ Below w.heap.size w w' := by
 have hu25 := Try.underlying25
 have hu31 := Try.underlying31
 have HR0 := Aside0.mk hr0
 have HC0 := Aside0.mk hc0
 clear hr0 hc0
 have HB := Aside0.mk (Below.refl w.heap.size w)
 have H := h
 clear h
 unfold laws_FnExprSwap.f at H
 by_cases c2 : (l0.length : Int) > 1048576
 ·rw [if_pos c2] at H
  have c2b0 : decide (1048576 < (l0.length : Int)) = true := decide_eq_true c2
  have c2b1 : decide (1048576 < l0.length) = true := decide_eq_true (by omega)
  clear c2
  obtain rfl := Option.some.inj H
  go_enter Try.func13, Try.ntmps13
  go_wp2
  go_ret
  exact ⟨by first | rfl | (simp [errW_none, errW_some] <;> rfl) | (simp [*, errW_none, errW_some] <;> rfl), hz0 HB⟩
 ·rw [if_neg c2] at H
  have c2b0 : decide (1048576 < (l0.length : Int)) = false := decide_eq_false c2
  have c2b1 : decide (1048576 < l0.length) = false := decide_eq_false (by omega)
  clear c2
  replace H := Option.bind_eq_some_iff.mp H
  obtain ⟨⟨t530, t531, t532, t533⟩, A30, H⟩ := H
  try dsimp only at H
  have A3 := Aside0.mk A30
  clear A30
  replace H := Option.bind_eq_some_iff.mp H
  obtain ⟨⟨t537, t538, t539⟩, A40, H⟩ := H
  try dsimp only at H
  have A4 := Aside0.mk A40
  clear A40
  replace H := Option.bind_eq_some_iff.mp H
  obtain ⟨⟨t541, t542, t543⟩, A50, H⟩ := H
  try dsimp only at H
  have A5 := Aside0.mk A50
  clear A50
  by_cases c6 : (t543 != t539) = true
  ·rw [if_pos c6] at H
   have c6b0 : (t543 != t539) = true := c6
   (try (have c6b1 : decide (t543 = t539) = false := by simpa using c6))
   (try (have c6b2 : (t543 == t539) = false := by simpa using c6))
   (try (have c6b3 : ¬ (t543 = t539) := by simpa using c6))
   clear c6
   by_cases c7 : (t543 == t539) = true
   ·rw [if_pos c7] at H
    have c7b0 : (t543 == t539) = true := c7
    exact absurd (show (t543 != t539) = false by simp only [bne, c7b0, Bool.not_true]) (by rw [c6b0]; decide)
   ·rw [if_neg c7] at H
    exact absurd (Option.some.inj H) (by rw [HRT.out]; decide)
  ·rw [if_neg c6] at H
   have c6b0 : (t543 != t539) = false := by simpa using c6
   (try (have c6b1 : decide (t543 = t539) = true := by simpa using c6))
   (try (have c6b2 : (t543 == t539) = true := by simpa using c6))
   clear c6
   by_cases c37 : (!(t541 == t537) || (!(t542 == t538))) = true
   ·rw [if_pos c37] at H
    have c37b0 : (!(t541 == t537) || (!(t542 == t538))) = true := c37
    clear c37
    by_cases c38 : (t543 == t539) = true
    ·rw [if_pos c38] at H
     have c38b0 : (t543 == t539) = true := c38
     (try (have c38b1 : decide (t543 = t539) = true := by simpa using c38))
     (try (have c38b2 : (t543 == t539) = true := by simpa using c38))
     clear c38
     obtain rfl := Option.some.inj H
     go_enter Try.func13, Try.ntmps13
     go_wp2_with (first | ((with_reducible refine gate_callee (f := 33) rfl ?_); refine gL 14 Try.func33 #[.slice A0 l0.length c0] ?_; (with_reducible refine (spec_DrawExprSpan.calls k _ _ l0 t530 t531 t532 t533 _ ?side1 ?side2 A3.out).mono ?_); (case side1 => repeat (first | exact HR0.out | (with_reducible refine Kd.C_alloc ?_ _) | (with_reducible refine Kd.C_drewN ?_ _) | (with_reducible refine Kd.C_drew ?_))); (case side2 => exact HC0.out); rintro e w39 ⟨v534, rfl, ho0, hb⟩; refine ⟨_, rfl, ?_⟩; have HO535 := Aside0.mk (Kd.N_lower (Kd.N_mono (ok' := fun k_ => True) ho0 (fun k_ hk_ => trivial)) (below_size (hz0 HB))); replace HB := hbb (hz0 HB) hb; (try clear hb); (try clear hb2); (try clear hk); (try clear hi); (try clear ho0)) | ((with_reducible refine gate_dst (N := 3) rfl ?_); refine bE 3 #[.int .i64 0, .int .i64 0, .int .i64 0, .slice none 0 0] 25 ?_; intro gb536 hg w40 hbox hb; have BK536 := Aside0.mk (hbox); have GE536 := gw hg (hz0 HB); have GW536 := GE536; replace HO535 := Aside0.mk (Kd.N_below (Kd.N_elderB (by (with_reducible repeat (first | apply Kd.N_alloc | apply Kd.N_drewN | apply Kd.N_drew)); exact HO535.out) gb536 (Nat.le_of_eq hg.symm)) hb); replace HB := hbb (hz0 HB) hb; clear hb hbox hg; obtain ⟨hcz41_0, hcz41_1, hcz41_2, hcz41_3, hfz41_0, hfz41_1, hfz41_2, hfz41_3⟩ := cz4 BK536; obtain ⟨Ao42, co42, eo42⟩ := Kd.N_slice HO535.out; subst eo42) | ((with_reducible refine gate_callee (f := 31) rfl ?_); refine gL 17 Try.func31 #[.agg #[.int .i64 t530, .int .i64 t531, .int .i64 t532, .slice Ao42 t533.length co42]] ?_; (with_reducible refine (spec_ExprSpan.calls k t530 t531 t532 _ _ t533 t537 t538 t539 _ ?side1 ?side2 A4.out).mono ?_); (case side1 => refine (Kd.N_reads' (e := 25) (base := w.heap.size) (ok := fun k_ => (True ∧ k_ ≠ gb536)) (n := t533.length) (c := co42) ?_).2.2; exact (by (with_reducible repeat (first | apply Kd.N_alloc | apply Kd.N_drewN | apply Kd.N_drew)); exact (Kd.N_mono (Kd.N_far (p := ⟨gb536, 3, none⟩) (Kd.N_far (p := ⟨gb536, 2, none⟩) (Kd.N_far (p := ⟨gb536, 1, none⟩) (Kd.N_far (p := ⟨gb536, 0, none⟩) (Kd.N_mono HO535.out (fun k_ hk => (⟨hk, hk.2⟩ : _ ∧ k_ ≠ gb536))) (fun _ hk => hk.2) (.int .i64 t530)) (fun _ hk => hk.2) (.int .i64 t531)) (fun _ hk => hk.2) (.int .i64 t532)) (fun _ hk => hk.2) (.slice Ao42 t533.length co42)) (fun _ h_ => h_.1)))); (case side2 => exact (Kd.N_reads' HO535.out).2.1); rintro e w43 ⟨rfl, hb⟩; refine ⟨_, rfl, ?_⟩; replace HO535 := Aside0.mk (Kd.N_below (by (with_reducible repeat (first | apply Kd.N_alloc | apply Kd.N_drewN | apply Kd.N_drew)); exact (Kd.N_mono (Kd.N_far (p := ⟨gb536, 3, none⟩) (Kd.N_far (p := ⟨gb536, 2, none⟩) (Kd.N_far (p := ⟨gb536, 1, none⟩) (Kd.N_far (p := ⟨gb536, 0, none⟩) (Kd.N_mono HO535.out (fun k_ hk => (⟨hk, hk.2⟩ : _ ∧ k_ ≠ gb536))) (fun _ hk => hk.2) (.int .i64 t530)) (fun _ hk => hk.2) (.int .i64 t531)) (fun _ hk => hk.2) (.int .i64 t532)) (fun _ hk => hk.2) (.slice Ao42 t533.length co42)) (fun _ h_ => h_.1))) hb); replace BK536 := Aside0.mk (blk_below (g := gb536) (o := .cells #[.int .i64 t530, .int .i64 t531, .int .i64 t532, .slice Ao42 t533.length co42] 25 (0, 0)) (by (with_reducible repeat (first | refine blk_drewN ?_ _ | refine blk_drew ?_ | refine blk_alloc ?_ _)); refine blk_put (cs := #[.int .i64 t530, .int .i64 t531, .int .i64 t532, .slice none 0 0]) ?_ 3 _ rfl; (with_reducible repeat (first | refine blk_drewN ?_ _ | refine blk_drew ?_ | refine blk_alloc ?_ _)); refine blk_put (cs := #[.int .i64 t530, .int .i64 t531, .int .i64 0, .slice none 0 0]) ?_ 2 _ rfl; (with_reducible repeat (first | refine blk_drewN ?_ _ | refine blk_drew ?_ | refine blk_alloc ?_ _)); refine blk_put (cs := #[.int .i64 t530, .int .i64 0, .int .i64 0, .slice none 0 0]) ?_ 1 _ rfl; (with_reducible repeat (first | refine blk_drewN ?_ _ | refine blk_drew ?_ | refine blk_alloc ?_ _)); refine blk_put (cs := #[.int .i64 0, .int .i64 0, .int .i64 0, .slice none 0 0]) ?_ 0 _ rfl; (with_reducible repeat (first | refine blk_drewN ?_ _ | refine blk_drew ?_ | refine blk_alloc ?_ _)); exact BK536.out) hb); replace HB := hbb (hzs HB) hb; clear hb) | ((with_reducible refine gate_dst (N := 4) rfl ?_); refine bE 4 #[.int .i64 0, .int .i64 0] 31 ?_; intro gb540 hg w44 hbox hb; have BK540 := Aside0.mk (hbox); have GE540 := gw hg (hzs HB); have GW540 := GE540; have NB536_540 := nl hg (bk BK536); have NB540_536 := ng hg (bk BK536); replace HO535 := Aside0.mk (Kd.N_below (Kd.N_elderB (by (with_reducible repeat (first | apply Kd.N_alloc | apply Kd.N_drewN | apply Kd.N_drew)); exact HO535.out) gb540 (Nat.le_of_eq hg.symm)) hb); replace BK536 := bb (bk BK536) hb; replace HB := hbb (hzs HB) hb; clear hb hbox hg; have hnb45 := NB540_536.out; have hnc45 := NB536_540.out; obtain ⟨hcz46_0, hcz46_1, hfz46_0, hfz46_1⟩ := cz2 BK540; obtain ⟨hcz47_0, hcz47_1, hcz47_2, hcz47_3, hfz47_0, hfz47_1, hfz47_2, hfz47_3⟩ := cz4 BK536) | ((with_reducible refine gate_callee (f := 18) rfl ?_); refine gL 22 Try.func18 #[.agg #[.int .i64 t530, .int .i64 t531, .int .i64 t532, .slice Ao42 t533.length co42]] ?_; (with_reducible refine (impl_ExprSpan.calls k t530 t531 t532 _ _ t533 t541 t542 t543 _ ?side1 ?side2 A5.out).mono ?_); (case side1 => refine (Kd.N_reads' (e := 25) (base := w.heap.size) (ok := fun k_ => ((True ∧ k_ ≠ gb536) ∧ k_ ≠ gb540)) (n := t533.length) (c := co42) ?_).2.2; exact (by (with_reducible repeat (first | apply Kd.N_alloc | apply Kd.N_drewN | apply Kd.N_drew)); exact (Kd.N_mono (Kd.N_far (p := ⟨gb540, 1, none⟩) (Kd.N_far (p := ⟨gb540, 0, none⟩) (Kd.N_mono HO535.out (fun k_ hk => (⟨hk, hk.2⟩ : _ ∧ k_ ≠ gb540))) (fun _ hk => hk.2) (.int .i64 t537)) (fun _ hk => hk.2) (.int .i64 t538)) (fun _ h_ => h_.1)))); (case side2 => exact (Kd.N_reads' HO535.out).2.1); rintro e w48 ⟨rfl, hb⟩; refine ⟨_, rfl, ?_⟩; replace HO535 := Aside0.mk (Kd.N_below (by (with_reducible repeat (first | apply Kd.N_alloc | apply Kd.N_drewN | apply Kd.N_drew)); exact (Kd.N_mono (Kd.N_far (p := ⟨gb540, 1, none⟩) (Kd.N_far (p := ⟨gb540, 0, none⟩) (Kd.N_mono HO535.out (fun k_ hk => (⟨hk, hk.2⟩ : _ ∧ k_ ≠ gb540))) (fun _ hk => hk.2) (.int .i64 t537)) (fun _ hk => hk.2) (.int .i64 t538)) (fun _ h_ => h_.1))) hb); replace BK536 := bb (bk1 BK536 NB536_540) hb; replace BK540 := bb (o := .cells #[.int .i64 t537, .int .i64 t538] 31 (0, 0)) (bkp BK540) hb; replace HB := hbb (hzs HB) hb; clear hb) | ((with_reducible refine gate_dst (N := 6) rfl ?_); refine bE 6 #[.int .i64 0, .int .i64 0] 31 ?_; intro gb544 hg w49 hbox hb; have BK544 := Aside0.mk (hbox); have GE544 := gw hg (hzs HB); have GW544 := GE544; have NB536_544 := nl hg (bk BK536); have NB544_536 := ng hg (bk BK536); have NB540_544 := nl hg (bk BK540); have NB544_540 := ng hg (bk BK540); replace HO535 := Aside0.mk (Kd.N_below (Kd.N_elderB (by (with_reducible repeat (first | apply Kd.N_alloc | apply Kd.N_drewN | apply Kd.N_drew)); exact HO535.out) gb544 (Nat.le_of_eq hg.symm)) hb); replace BK536 := bb (bk BK536) hb; replace BK540 := bb (bk BK540) hb; replace HB := hbb (hzs HB) hb; clear hb hbox hg; have hnb50 := NB544_536.out; have hnc50 := NB536_544.out; have hnb51 := NB544_540.out; have hnc51 := NB540_544.out; obtain ⟨hcz52_0, hcz52_1, hfz52_0, hfz52_1⟩ := cz2 BK544; obtain ⟨hcz53_0, hcz53_1, hfz53_0, hfz53_1⟩ := cz2 BK540))
     go_ret
     exact ⟨by first | rfl | (simp [errW_none, errW_some] <;> rfl) | (simp [*, errW_none, errW_some] <;> rfl), hzs HB⟩
    ·rw [if_neg c38] at H
     exact absurd (Option.some.inj H) (by rw [HRT.out]; decide)
   ·rw [if_neg c37] at H
    have c37b0 : (!(t541 == t537) || (!(t542 == t538))) = false := by simpa using c37
    clear c37
    by_cases c69 : t530 = 5
    ·rw [if_pos c69] at H
     have c69b0 : (t530 == 5) = true := beq_iff_eq.mpr c69
     have c69b1 : (t530 != 5) = false := bne_eq_false_iff_eq.mpr c69
     clear c69
     replace H := Option.bind_eq_some_iff.mp H
     obtain ⟨t545, A700, H⟩ := H
     try dsimp only at H
     have A70 := Aside0.mk A700
     clear A700
     by_cases c71 : t545 = true
     ·subst c71
      rw [if_pos rfl] at H
      by_cases c72 : 1 < (t533.length : Int)
      ·rw [if_pos c72] at H
       have c72b0 : decide (1 < (t533.length : Int)) = true := decide_eq_true c72
       have c72b1 : decide (1 < t533.length) = true := decide_eq_true (by omega)
       clear c72
       by_cases c73 : 0 < (t533.length : Int)
       ·rw [if_pos c73] at H
        have c73b0 : decide (0 < (t533.length : Int)) = true := decide_eq_true c73
        have c73b1 : decide (0 < t533.length) = true := decide_eq_true (by omega)
        clear c73
        obtain ⟨y548, hy548⟩ : ∃ y_ : List (S25), y_ = (([(⟨(rd_T25 t533 1).f0, (rd_T25 t533 1).f1, (rd_T25 t533 1).f2, (rd_T25 t533 1).f3⟩ : S25), (⟨(rd_T25 t533 0).f0, (rd_T25 t533 0).f1, (rd_T25 t533 0).f2, (rd_T25 t533 0).f3⟩ : S25)] : List (S25))) := ⟨_, rfl⟩
        replace H : ((impl_ExprSpan.f k t530 0 0 y548).bind fun bt551 => (if (bt551.2.2 == t543) = true then (some (bt551.1 == t541 && (bt551.2.1 == t542))) else (some false))) = some r := by first | (rw [hy548]; with_reducible exact H) | (have H2_ := (Option.bind_some _ _).symm.trans H; rw [hy548]; with_reducible exact H2_) | (have H2_ := (Option.bind_some _ _).symm.trans H; with_reducible exact H2_) | with_reducible exact H | (rw [hy548]; exact H) | exact H
        have Ny548 := Aside0.mk hy548
        clear hy548
        replace H := Option.bind_eq_some_iff.mp H
        obtain ⟨⟨t551, t552, t553⟩, A740, H⟩ := H
        try dsimp only at H
        have A74 := Aside0.mk A740
        clear A740
        by_cases c75 : (t553 == t543) = true
        ·rw [if_pos c75] at H
         have c75b0 : (t553 == t543) = true := c75
         (try (have c75b1 : decide (t553 = t543) = true := by simpa using c75))
         (try (have c75b2 : (t553 == t543) = true := by simpa using c75))
         clear c75
         obtain rfl := Option.some.inj H
         go_enter Try.func13, Try.ntmps13
         try go_wp2_with (first | ((with_reducible refine gate_callee (f := 33) rfl ?_); refine gL 14 Try.func33 #[.slice A0 l0.length c0] ?_; (with_reducible refine (spec_DrawExprSpan.calls k _ _ l0 t530 t531 t532 t533 _ ?side1 ?side2 A3.out).mono ?_); (case side1 => repeat (first | exact HR0.out | (with_reducible refine Kd.C_alloc ?_ _) | (with_reducible refine Kd.C_drewN ?_ _) | (with_reducible refine Kd.C_drew ?_))); (case side2 => exact HC0.out); rintro e w76 ⟨v534, rfl, ho0, hb⟩; refine ⟨_, rfl, ?_⟩; have HO535 := Aside0.mk (Kd.N_lower (Kd.N_mono (ok' := fun k_ => True) ho0 (fun k_ hk_ => trivial)) (below_size (hz0 HB))); replace HB := hbb (hz0 HB) hb; (try clear hb); (try clear hb2); (try clear hk); (try clear hi); (try clear ho0)) | ((with_reducible refine gate_dst (N := 3) rfl ?_); refine bE 3 #[.int .i64 0, .int .i64 0, .int .i64 0, .slice none 0 0] 25 ?_; intro gb536 hg w77 hbox hb; have BK536 := Aside0.mk (hbox); have GE536 := gw hg (hz0 HB); have GW536 := GE536; replace HO535 := Aside0.mk (Kd.N_below (Kd.N_elderB (by (with_reducible repeat (first | apply Kd.N_alloc | apply Kd.N_drewN | apply Kd.N_drew)); exact HO535.out) gb536 (Nat.le_of_eq hg.symm)) hb); replace HB := hbb (hz0 HB) hb; clear hb hbox hg; obtain ⟨hcz78_0, hcz78_1, hcz78_2, hcz78_3, hfz78_0, hfz78_1, hfz78_2, hfz78_3⟩ := cz4 BK536; obtain ⟨Ao79, co79, eo79⟩ := Kd.N_slice HO535.out; subst eo79) | ((with_reducible refine gate_callee (f := 31) rfl ?_); refine gL 17 Try.func31 #[.agg #[.int .i64 t530, .int .i64 t531, .int .i64 t532, .slice Ao79 t533.length co79]] ?_; (with_reducible refine (spec_ExprSpan.calls k t530 t531 t532 _ _ t533 t537 t538 t539 _ ?side1 ?side2 A4.out).mono ?_); (case side1 => refine (Kd.N_reads' (e := 25) (base := w.heap.size) (ok := fun k_ => (True ∧ k_ ≠ gb536)) (n := t533.length) (c := co79) ?_).2.2; exact (by (with_reducible repeat (first | apply Kd.N_alloc | apply Kd.N_drewN | apply Kd.N_drew)); exact (Kd.N_mono (Kd.N_far (p := ⟨gb536, 3, none⟩) (Kd.N_far (p := ⟨gb536, 2, none⟩) (Kd.N_far (p := ⟨gb536, 1, none⟩) (Kd.N_far (p := ⟨gb536, 0, none⟩) (Kd.N_mono HO535.out (fun k_ hk => (⟨hk, hk.2⟩ : _ ∧ k_ ≠ gb536))) (fun _ hk => hk.2) (.int .i64 t530)) (fun _ hk => hk.2) (.int .i64 t531)) (fun _ hk => hk.2) (.int .i64 t532)) (fun _ hk => hk.2) (.slice Ao79 t533.length co79)) (fun _ h_ => h_.1)))); (case side2 => exact (Kd.N_reads' HO535.out).2.1); rintro e w80 ⟨rfl, hb⟩; refine ⟨_, rfl, ?_⟩; replace HO535 := Aside0.mk (Kd.N_below (by (with_reducible repeat (first | apply Kd.N_alloc | apply Kd.N_drewN | apply Kd.N_drew)); exact (Kd.N_mono (Kd.N_far (p := ⟨gb536, 3, none⟩) (Kd.N_far (p := ⟨gb536, 2, none⟩) (Kd.N_far (p := ⟨gb536, 1, none⟩) (Kd.N_far (p := ⟨gb536, 0, none⟩) (Kd.N_mono HO535.out (fun k_ hk => (⟨hk, hk.2⟩ : _ ∧ k_ ≠ gb536))) (fun _ hk => hk.2) (.int .i64 t530)) (fun _ hk => hk.2) (.int .i64 t531)) (fun _ hk => hk.2) (.int .i64 t532)) (fun _ hk => hk.2) (.slice Ao79 t533.length co79)) (fun _ h_ => h_.1))) hb); replace BK536 := Aside0.mk (blk_below (g := gb536) (o := .cells #[.int .i64 t530, .int .i64 t531, .int .i64 t532, .slice Ao79 t533.length co79] 25 (0, 0)) (by (with_reducible repeat (first | refine blk_drewN ?_ _ | refine blk_drew ?_ | refine blk_alloc ?_ _)); refine blk_put (cs := #[.int .i64 t530, .int .i64 t531, .int .i64 t532, .slice none 0 0]) ?_ 3 _ rfl; (with_reducible repeat (first | refine blk_drewN ?_ _ | refine blk_drew ?_ | refine blk_alloc ?_ _)); refine blk_put (cs := #[.int .i64 t530, .int .i64 t531, .int .i64 0, .slice none 0 0]) ?_ 2 _ rfl; (with_reducible repeat (first | refine blk_drewN ?_ _ | refine blk_drew ?_ | refine blk_alloc ?_ _)); refine blk_put (cs := #[.int .i64 t530, .int .i64 0, .int .i64 0, .slice none 0 0]) ?_ 1 _ rfl; (with_reducible repeat (first | refine blk_drewN ?_ _ | refine blk_drew ?_ | refine blk_alloc ?_ _)); refine blk_put (cs := #[.int .i64 0, .int .i64 0, .int .i64 0, .slice none 0 0]) ?_ 0 _ rfl; (with_reducible repeat (first | refine blk_drewN ?_ _ | refine blk_drew ?_ | refine blk_alloc ?_ _)); exact BK536.out) hb); replace HB := hbb (hzs HB) hb; clear hb) | ((with_reducible refine gate_dst (N := 4) rfl ?_); refine bE 4 #[.int .i64 0, .int .i64 0] 31 ?_; intro gb540 hg w81 hbox hb; have BK540 := Aside0.mk (hbox); have GE540 := gw hg (hzs HB); have GW540 := GE540; have NB536_540 := nl hg (bk BK536); have NB540_536 := ng hg (bk BK536); replace HO535 := Aside0.mk (Kd.N_below (Kd.N_elderB (by (with_reducible repeat (first | apply Kd.N_alloc | apply Kd.N_drewN | apply Kd.N_drew)); exact HO535.out) gb540 (Nat.le_of_eq hg.symm)) hb); replace BK536 := bb (bk BK536) hb; replace HB := hbb (hzs HB) hb; clear hb hbox hg; have hnb82 := NB540_536.out; have hnc82 := NB536_540.out; obtain ⟨hcz83_0, hcz83_1, hfz83_0, hfz83_1⟩ := cz2 BK540; obtain ⟨hcz84_0, hcz84_1, hcz84_2, hcz84_3, hfz84_0, hfz84_1, hfz84_2, hfz84_3⟩ := cz4 BK536) | ((with_reducible refine gate_callee (f := 18) rfl ?_); refine gL 22 Try.func18 #[.agg #[.int .i64 t530, .int .i64 t531, .int .i64 t532, .slice Ao79 t533.length co79]] ?_; (with_reducible refine (impl_ExprSpan.calls k t530 t531 t532 _ _ t533 t541 t542 t543 _ ?side1 ?side2 A5.out).mono ?_); (case side1 => refine (Kd.N_reads' (e := 25) (base := w.heap.size) (ok := fun k_ => ((True ∧ k_ ≠ gb536) ∧ k_ ≠ gb540)) (n := t533.length) (c := co79) ?_).2.2; exact (by (with_reducible repeat (first | apply Kd.N_alloc | apply Kd.N_drewN | apply Kd.N_drew)); exact (Kd.N_mono (Kd.N_far (p := ⟨gb540, 1, none⟩) (Kd.N_far (p := ⟨gb540, 0, none⟩) (Kd.N_mono HO535.out (fun k_ hk => (⟨hk, hk.2⟩ : _ ∧ k_ ≠ gb540))) (fun _ hk => hk.2) (.int .i64 t537)) (fun _ hk => hk.2) (.int .i64 t538)) (fun _ h_ => h_.1)))); (case side2 => exact (Kd.N_reads' HO535.out).2.1); rintro e w85 ⟨rfl, hb⟩; refine ⟨_, rfl, ?_⟩; replace HO535 := Aside0.mk (Kd.N_below (by (with_reducible repeat (first | apply Kd.N_alloc | apply Kd.N_drewN | apply Kd.N_drew)); exact (Kd.N_mono (Kd.N_far (p := ⟨gb540, 1, none⟩) (Kd.N_far (p := ⟨gb540, 0, none⟩) (Kd.N_mono HO535.out (fun k_ hk => (⟨hk, hk.2⟩ : _ ∧ k_ ≠ gb540))) (fun _ hk => hk.2) (.int .i64 t537)) (fun _ hk => hk.2) (.int .i64 t538)) (fun _ h_ => h_.1))) hb); replace BK536 := bb (bk1 BK536 NB536_540) hb; replace BK540 := bb (o := .cells #[.int .i64 t537, .int .i64 t538] 31 (0, 0)) (bkp BK540) hb; replace HB := hbb (hzs HB) hb; clear hb) | ((with_reducible refine gate_dst (N := 6) rfl ?_); refine bE 6 #[.int .i64 0, .int .i64 0] 31 ?_; intro gb544 hg w86 hbox hb; have BK544 := Aside0.mk (hbox); have GE544 := gw hg (hzs HB); have GW544 := GE544; have NB536_544 := nl hg (bk BK536); have NB544_536 := ng hg (bk BK536); have NB540_544 := nl hg (bk BK540); have NB544_540 := ng hg (bk BK540); replace HO535 := Aside0.mk (Kd.N_below (Kd.N_elderB (by (with_reducible repeat (first | apply Kd.N_alloc | apply Kd.N_drewN | apply Kd.N_drew)); exact HO535.out) gb544 (Nat.le_of_eq hg.symm)) hb); replace BK536 := bb (bk BK536) hb; replace BK540 := bb (bk BK540) hb; replace HB := hbb (hzs HB) hb; clear hb hbox hg; have hnb87 := NB544_536.out; have hnc87 := NB536_544.out; have hnb88 := NB544_540.out; have hnc88 := NB540_544.out; obtain ⟨hcz89_0, hcz89_1, hfz89_0, hfz89_1⟩ := cz2 BK544; obtain ⟨hcz90_0, hcz90_1, hfz90_0, hfz90_1⟩ := cz2 BK540; obtain ⟨hcz91_0, hcz91_1, hcz91_2, hcz91_3, hfz91_0, hfz91_1, hfz91_2, hfz91_3⟩ := cz4 BK536) | (go_at_call 21; (with_reducible refine (spec_ExprOk.calls k t530 t531 t532 _ _ t533 true _ ?side1 ?side2 A70.out).mono ?_); (case side1 => refine (Kd.N_reads' (e := 25) (base := w.heap.size) (ok := fun k_ => (((True ∧ k_ ≠ gb536) ∧ k_ ≠ gb540) ∧ k_ ≠ gb544)) (n := t533.length) (c := co79) ?_).2.2; exact (by (with_reducible repeat (first | apply Kd.N_alloc | apply Kd.N_drewN | apply Kd.N_drew)); exact (Kd.N_mono (Kd.N_far (p := ⟨gb544, 1, none⟩) (Kd.N_far (p := ⟨gb544, 0, none⟩) (Kd.N_mono HO535.out (fun k_ hk => (⟨hk, hk.2⟩ : _ ∧ k_ ≠ gb544))) (fun _ hk => hk.2) (.int .i64 t541)) (fun _ hk => hk.2) (.int .i64 t542)) (fun _ h_ => h_.1)))); (case side2 => exact (Kd.N_reads' HO535.out).2.1); rintro e w92 ⟨rfl, hb⟩; replace HO535 := Aside0.mk (Kd.N_below (by (with_reducible repeat (first | apply Kd.N_alloc | apply Kd.N_drewN | apply Kd.N_drew)); exact (Kd.N_mono (Kd.N_far (p := ⟨gb544, 1, none⟩) (Kd.N_far (p := ⟨gb544, 0, none⟩) (Kd.N_mono HO535.out (fun k_ hk => (⟨hk, hk.2⟩ : _ ∧ k_ ≠ gb544))) (fun _ hk => hk.2) (.int .i64 t541)) (fun _ hk => hk.2) (.int .i64 t542)) (fun _ h_ => h_.1))) hb); replace BK536 := bb (bk1 BK536 NB536_544) hb; replace BK540 := bb (bk1 BK540 NB540_544) hb; replace BK544 := bb (o := .cells #[.int .i64 t541, .int .i64 t542] 31 (0, 0)) (bkp BK544) hb; replace HB := hbb (hzs HB) hb; clear hb))
         replace HO535 := Aside0.mk (Kd.N_drew HO535.out)
         replace BK536 := Aside0.mk (blk_drew BK536.out)
         replace BK540 := Aside0.mk (blk_drew BK540.out)
         replace BK544 := Aside0.mk (blk_drew BK544.out)
         replace HB := Aside0.mk (below_drew1 HB.out)
         have p546 : 0 ≤ (1 : Int) := (by omega)
         have q546 : 1 < (t533.length : Int) := of_decide_eq_true (by first | (with_reducible assumption) | assumption)
         obtain ⟨ad546, A546_3, c546_3, e546, hx546_0, hx546_1, hx546_2, hx546_3, hl546_3, hi546_3⟩ := at_T25 (Kd.N_reads' HO535.out).2.2 1 p546 q546
         cases e546
         obtain ⟨ce546, hce546, hMe546, hcc546⟩ := Kd.N_get HO535.out z25 1 p546 (by first | exact q546 | exact of_decide_eq_true (by first | (with_reducible assumption) | assumption) | (have e_ := (Kd.N_reads' HO535.out).1; omega))
         obtain ⟨ua546_3, uc546_3, rfl, ul546_3, ge546_3⟩ := k25_openF hMe546
         have hv546_3 := hcc546 3 _ rfl
         rw [add_field _ _ 3 (by omega)] at hv546_3
         replace hv546_3 := Option.some.inj (hv546_3.symm.trans hx546_3)
         injection hv546_3 with hva_ hvn_ hvc_
         rw [hva_] at ge546_3
         rw [hvc_] at ul546_3
         have HL546_3 := Aside0.mk (show Kd.V k25 25 _ w.heap.size _ _ ((rd_T25 t533 1).f3) from Kd.V_mk ul546_3 ge546_3)
         clear hva_ hvn_ hvc_ ge546_3 ul546_3
         clear hcc546 hce546
         (try simp only [show (1 : Int).toNat = 1 from rfl, Nat.reduceMul, Nat.reduceEqDiff, Go.Addr.add, ↓reduceIte] at hx546_0)
         (try simp only [show (1 : Int).toNat = 1 from rfl, Nat.reduceMul, Nat.reduceEqDiff, Go.Addr.add, ↓reduceIte] at hx546_1)
         (try simp only [show (1 : Int).toNat = 1 from rfl, Nat.reduceMul, Nat.reduceEqDiff, Go.Addr.add, ↓reduceIte] at hx546_2)
         (try simp only [show (1 : Int).toNat = 1 from rfl, Nat.reduceMul, Nat.reduceEqDiff, Go.Addr.add, ↓reduceIte] at hx546_3)
         have qi546 : (1 < t533.length) = True := eq_true (by omega)
         (try rw [show ((1 : Int)).toNat = 1 from rfl] at hx546_0)
         (try rw [show 1 * 4 = 4 from rfl] at hx546_0)
         (try rw [show ((1 : Int)).toNat = 1 from rfl] at hx546_1)
         (try rw [show 1 * 4 = 4 from rfl] at hx546_1)
         (try rw [show ((1 : Int)).toNat = 1 from rfl] at hx546_2)
         (try rw [show 1 * 4 = 4 from rfl] at hx546_2)
         (try rw [show ((1 : Int)).toNat = 1 from rfl] at hx546_3)
         (try rw [show 1 * 4 = 4 from rfl] at hx546_3)
         have HR546_3 := Aside0.mk hi546_3
         have HC546_3 := Aside0.mk hl546_3
         clear hi546_3 hl546_3
         replace p546 := eq_true p546
         replace q546 := eq_true q546
         have p547 : 0 ≤ (0 : Int) := (by omega)
         have q547 : 0 < (t533.length : Int) := of_decide_eq_true (by first | (with_reducible assumption) | assumption)
         obtain ⟨ad547, A547_3, c547_3, e547, hx547_0, hx547_1, hx547_2, hx547_3, hl547_3, hi547_3⟩ := at_T25 (Kd.N_reads' HO535.out).2.2 0 p547 q547
         obtain rfl : ad546 = ad547 := (by injection e547)
         obtain ⟨ce547, hce547, hMe547, hcc547⟩ := Kd.N_get HO535.out z25 0 p547 (by first | exact q547 | exact of_decide_eq_true (by first | (with_reducible assumption) | assumption) | (have e_ := (Kd.N_reads' HO535.out).1; omega))
         obtain ⟨ua547_3, uc547_3, rfl, ul547_3, ge547_3⟩ := k25_openF hMe547
         have hv547_3 := hcc547 3 _ rfl
         rw [add_field _ _ 3 (by omega)] at hv547_3
         replace hv547_3 := Option.some.inj (hv547_3.symm.trans hx547_3)
         injection hv547_3 with hva_ hvn_ hvc_
         rw [hva_] at ge547_3
         rw [hvc_] at ul547_3
         have HL547_3 := Aside0.mk (show Kd.V k25 25 _ w.heap.size _ _ ((rd_T25 t533 0).f3) from Kd.V_mk ul547_3 ge547_3)
         clear hva_ hvn_ hvc_ ge547_3 ul547_3
         clear hcc547 hce547
         have qi547 : (0 < t533.length) = True := eq_true (by omega)
         (try rw [show ((0 : Int)).toNat = 0 from rfl] at hx547_0)
         (try rw [show 0 * 4 = 0 from rfl] at hx547_0)
         (try rw [Addr.add_zero'] at hx547_0)
         (try rw [show ((0 : Int)).toNat = 0 from rfl] at hx547_1)
         (try rw [show 0 * 4 = 0 from rfl] at hx547_1)
         (try rw [Addr.add_zero'] at hx547_1)
         (try rw [show ((0 : Int)).toNat = 0 from rfl] at hx547_2)
         (try rw [show 0 * 4 = 0 from rfl] at hx547_2)
         (try rw [Addr.add_zero'] at hx547_2)
         (try rw [show ((0 : Int)).toNat = 0 from rfl] at hx547_3)
         (try rw [show 0 * 4 = 0 from rfl] at hx547_3)
         (try rw [Addr.add_zero'] at hx547_3)
         have HR547_3 := Aside0.mk hi547_3
         have HC547_3 := Aside0.mk hl547_3
         clear hi547_3 hl547_3
         replace p547 := eq_true p547
         replace q547 := eq_true q547
         refine start_ (n := 19) (S := fun w' => w'.cell? ⟨gb536, 0, none⟩ = some (.int .i64 t530) ∧ w'.cell? ⟨gb536, 1, none⟩ = some (.int .i64 t531) ∧ w'.cell? ⟨gb536, 2, none⟩ = some (.int .i64 t532) ∧ w'.cell? ⟨gb536, 3, none⟩ = some (.slice (some ad546) t533.length co79) ∧ w'.cell? ⟨ad546.block, ad546.off + 4, none⟩ = some (.int .i64 ((rd_T25 t533 1).f0)) ∧ w'.cell? ⟨ad546.block, ad546.off + 4 + 1, none⟩ = some (.int .i64 ((rd_T25 t533 1).f1)) ∧ w'.cell? ⟨ad546.block, ad546.off + 4 + 2, none⟩ = some (.int .i64 ((rd_T25 t533 1).f2)) ∧ w'.cell? ⟨ad546.block, ad546.off + 4 + 3, none⟩ = some (.slice A546_3 ((rd_T25 t533 1).f3).length c546_3) ∧ w'.cell? ad546 = some (.int .i64 ((rd_T25 t533 0).f0)) ∧ w'.cell? ⟨ad546.block, ad546.off + 1, none⟩ = some (.int .i64 ((rd_T25 t533 0).f1)) ∧ w'.cell? ⟨ad546.block, ad546.off + 2, none⟩ = some (.int .i64 ((rd_T25 t533 0).f2)) ∧ w'.cell? ⟨ad546.block, ad546.off + 3, none⟩ = some (.slice A547_3 ((rd_T25 t533 0).f3).length c547_3)) (ds := []) #[false, false, false, false, false, false, false, false, false, false, false, false, false, false, false, false, false, false, false] (by kernel_rfl) rfl rfl ⟨cw0 BK536, cw1 BK536, (blk_cell BK536.out 2).trans rfl, (blk_cell BK536.out 3).trans rfl, hx546_0, hx546_1, hx546_2, hx546_3, hx547_0, hx547_1, hx547_2, hx547_3⟩ (fun hHeld => ?_); refine with_tabW laws_FnExprSwap.tab8 laws_FnExprSwap.bits8 (fun HT_ HW_ => ?_)
         generalize w92.drew = w93 at HO535 BK536 BK540 BK544 HB HL546_3 HL547_3 HR546_3 HR547_3 hx546_0 hx546_1 hx546_2 hx546_3 hx547_0 hx547_1 hx547_2 hx547_3 hHeld ⊢
         refine pU 0 57 #[true, false, false, false, false, false, false, false, false, false, false, false, false, false, false, false, false, false, false] HT_ ?_
         refine pU 2 59 #[true, false, true, false, false, false, false, false, false, false, false, false, false, false, false, false, false, false, false] HT_ ?_
         refine pU 6 63 #[true, false, true, false, false, false, true, false, false, false, false, false, false, false, false, false, false, false, false] HT_ ?_
         refine take_ (i := 1) (N := some 58) (v := ?_) (a' := ?_) #[true, true, true, false, false, false, true, false, false, false, false, false, false, false, false, false, false, false, false] rfl rfl (take_ofW HT_.out HW_.out (by kernel_rfl)) (fun _ _ _ h => h) (Or.inl ⟨by rfl, ?_⟩) hHeld ?_ ?_
         rotate_left
         ·rintro w' ⟨s0, s1, s2, s3, s4, s5, s6, s7, s8, s9, s10, s11⟩
          go_simp
          with_reducible rfl
         rotate_left
         ·simp only [Act.put, List.setIfInBounds_toArray, List.set_cons_zero, List.set_cons_succ, i64_w, i32_w]
          rfl
         refine take_ (i := 3) (N := some 60) (v := ?_) (a' := ?_) #[true, true, true, true, false, false, true, false, false, false, false, false, false, false, false, false, false, false, false] rfl rfl (take_ofW HT_.out HW_.out (by kernel_rfl)) (fun _ _ _ h => h) (Or.inl ⟨by rfl, ?_⟩) hHeld ?_ ?_
         rotate_left
         ·rintro w' ⟨s0, s1, s2, s3, s4, s5, s6, s7, s8, s9, s10, s11⟩
          go_simp
          with_reducible rfl
         rotate_left
         ·simp only [Act.put, List.setIfInBounds_toArray, List.set_cons_zero, List.set_cons_succ, i64_w, i32_w]
          rfl
         refine pU 4 61 #[true, true, true, true, true, false, true, false, false, false, false, false, false, false, false, false, false, false, false] HT_ ?_
         refine take_ (i := 5) (N := some 62) (v := ?_) (a' := ?_) #[true, true, true, true, true, true, true, false, false, false, false, false, false, false, false, false, false, false, false] rfl rfl (take_ofW HT_.out HW_.out (by kernel_rfl)) (fun _ _ _ h => h) (Or.inl ⟨by rfl, ?_⟩) hHeld ?_ ?_
         rotate_left
         ·rintro w' ⟨s0, s1, s2, s3, s4, s5, s6, s7, s8, s9, s10, s11⟩
          go_simp
          with_reducible rfl
         rotate_left
         ·simp only [Act.put, List.setIfInBounds_toArray, List.set_cons_zero, List.set_cons_succ, i64_w, i32_w]
          rfl
         refine take_ (i := 7) (N := some 64) (v := ?_) (a' := ?_) #[true, true, true, true, true, true, true, true, false, false, false, false, false, false, false, false, false, false, false] rfl rfl (take_ofW HT_.out HW_.out (by kernel_rfl)) (fun _ _ _ h => h) (Or.inl ⟨by rfl, ?_⟩) hHeld ?_ ?_
         rotate_left
         ·rintro w' ⟨s0, s1, s2, s3, s4, s5, s6, s7, s8, s9, s10, s11⟩
          go_simp
          with_reducible rfl
         rotate_left
         ·simp only [Act.put, List.setIfInBounds_toArray, List.set_cons_zero, List.set_cons_succ, i64_w, i32_w]
          rfl
         refine pU 8 65 #[true, true, true, true, true, true, true, true, true, false, false, false, false, false, false, false, false, false, false] HT_ ?_
         refine take_ (i := 9) (N := some 66) (v := ?_) (a' := ?_) #[true, true, true, true, true, true, true, true, true, true, false, false, false, false, false, false, false, false, false] rfl rfl (take_ofW HT_.out HW_.out (by kernel_rfl)) (fun _ _ _ h => h) (Or.inl ⟨by rfl, ?_⟩) hHeld ?_ ?_
         rotate_left
         ·rintro w' ⟨s0, s1, s2, s3, s4, s5, s6, s7, s8, s9, s10, s11⟩
          go_simp
          with_reducible rfl
         rotate_left
         ·simp only [Act.put, List.setIfInBounds_toArray, List.set_cons_zero, List.set_cons_succ, i64_w, i32_w]
          rfl
         refine join_ (σ := Value × Nat) 2 #[true, true, true, true, true, true, true, true, true, true, true, true, true, true, true, true, true, false, false] (fun s_ => [(67, s_.1), (69, .tuple #[.agg #[.int .i64 t551, .int .i64 t552], .bool t553]), (8, .pointer (some ⟨s_.2, 0, none⟩)), (68, .agg #[.int .i64 t530, .int .i64 0, .int .i64 0, s_.1]), (56, .tuple #[.agg #[.int .i64 t551, .int .i64 t552], .bool t553]), (70, .agg #[.int .i64 t551, .int .i64 t552]), (71, .bool t553)]) (fun s_ w' => (w'.cell? ⟨gb536, 0, none⟩ = some (.int .i64 t530) ∧ w'.cell? ⟨gb536, 1, none⟩ = some (.int .i64 t531) ∧ w'.cell? ⟨gb536, 2, none⟩ = some (.int .i64 t532) ∧ w'.cell? ⟨gb536, 3, none⟩ = some (.slice (some ad546) t533.length co79) ∧ w'.cell? ⟨ad546.block, ad546.off + 4, none⟩ = some (.int .i64 ((rd_T25 t533 1).f0)) ∧ w'.cell? ⟨ad546.block, ad546.off + 4 + 1, none⟩ = some (.int .i64 ((rd_T25 t533 1).f1)) ∧ w'.cell? ⟨ad546.block, ad546.off + 4 + 2, none⟩ = some (.int .i64 ((rd_T25 t533 1).f2)) ∧ w'.cell? ⟨ad546.block, ad546.off + 4 + 3, none⟩ = some (.slice A546_3 ((rd_T25 t533 1).f3).length c546_3) ∧ w'.cell? ad546 = some (.int .i64 ((rd_T25 t533 0).f0)) ∧ w'.cell? ⟨ad546.block, ad546.off + 1, none⟩ = some (.int .i64 ((rd_T25 t533 0).f1)) ∧ w'.cell? ⟨ad546.block, ad546.off + 2, none⟩ = some (.int .i64 ((rd_T25 t533 0).f2)) ∧ w'.cell? ⟨ad546.block, ad546.off + 3, none⟩ = some (.slice A547_3 ((rd_T25 t533 0).f3).length c547_3)) ∧ (Kd.V k25 25 w' w.heap.size (fun k_ => some k_ ≠ (.slice (some ad546) t533.length co79 : Value).ownBlock ∧ some k_ ≠ (s_.1 : Value).ownBlock ∧ k_ ≠ gb536 ∧ k_ ≠ gb540 ∧ k_ ≠ gb544 ∧ k_ ≠ s_.2) (.slice A546_3 ((rd_T25 t533 1).f3).length c546_3) ((rd_T25 t533 1).f3)) ∧ (Kd.V k25 25 w' w.heap.size (fun k_ => some k_ ≠ (.slice (some ad546) t533.length co79 : Value).ownBlock ∧ some k_ ≠ (s_.1 : Value).ownBlock ∧ k_ ≠ gb536 ∧ k_ ≠ gb540 ∧ k_ ≠ gb544 ∧ k_ ≠ s_.2) (.slice A547_3 ((rd_T25 t533 0).f3).length c547_3) ((rd_T25 t533 0).f3)) ∧ (Kd.N k25 25 w' w.heap.size (fun k_ => some k_ ≠ (s_.1 : Value).ownBlock ∧ k_ ≠ gb536 ∧ k_ ≠ gb540 ∧ k_ ≠ gb544 ∧ k_ ≠ s_.2) (.slice (some ad546) t533.length co79) t533) ∧ (Kd.N k25 25 w' w.heap.size (fun k_ => some k_ ≠ (.slice (some ad546) t533.length co79 : Value).ownBlock ∧ k_ ≠ gb536 ∧ k_ ≠ gb540 ∧ k_ ≠ gb544 ∧ k_ ≠ s_.2) s_.1 y548) ∧ (w'.heap[gb536]? = some (.cells #[.int .i64 t530, .int .i64 t531, .int .i64 t532, .slice (some ad546) t533.length co79] 25 (0, 0))) ∧ (w'.heap[gb540]? = some (.cells #[.int .i64 t537, .int .i64 t538] 31 (0, 0))) ∧ (w'.heap[gb544]? = some (.cells #[.int .i64 t541, .int .i64 t542] 31 (0, 0))) ∧ (w'.heap[s_.2]? = some (.cells #[.int .i64 0, .int .i64 0] 31 (0, 0))) ∧ (w.heap.size ≤ s_.2) ∧ (w.heap.size ≤ s_.2) ∧ (gb536 ≠ s_.2) ∧ (s_.2 ≠ gb536) ∧ (gb540 ≠ s_.2) ∧ (s_.2 ≠ gb540) ∧ (gb544 ≠ s_.2) ∧ (s_.2 ≠ gb544) ∧ (Below w.heap.size w w')) ?_ ?_
         rotate_left
         ·intro hCont
          refine tW 10 16 67 8 #[true, true, true, true, true, true, true, true, true, true, true, false, false, false, false, false, false, false, false] #[true, true, true, true, true, true, true, true, true, true, false, false, false, false, false, false, true, false, false] HT_ (fun K hK => ?_) (fun K hK => ?_)
          ·skip
           refine Kd.N_lit_step k25 _ 25 ?hg (N' := 67) ?hd (xs := ([(⟨(rd_T25 t533 1).f0, (rd_T25 t533 1).f1, (rd_T25 t533 1).f2, (rd_T25 t533 1).f3⟩ : S25), (⟨(rd_T25 t533 0).f0, (rd_T25 t533 0).f1, (rd_T25 t533 0).f2, (rd_T25 t533 0).f3⟩ : S25)] : List (S25))) (inner := [.int .i64 ((rd_T25 t533 1).f0), .int .i64 ((rd_T25 t533 1).f1), .int .i64 ((rd_T25 t533 1).f2), .slice A546_3 ((rd_T25 t533 1).f3).length c546_3, .int .i64 ((rd_T25 t533 0).f0), .int .i64 ((rd_T25 t533 0).f1), .int .i64 ((rd_T25 t533 0).f2), .slice A547_3 ((rd_T25 t533 0).f3).length c547_3]) (ok := (fun k_ => some k_ ≠ (.slice (some ad546) t533.length co79 : Value).ownBlock ∧ k_ ≠ gb536 ∧ k_ ≠ gb540 ∧ k_ ≠ gb544)) (okp := (fun k_ => some k_ ≠ (.slice (some ad546) t533.length co79 : Value).ownBlock ∧ k_ ≠ gb536 ∧ k_ ≠ gb540 ∧ k_ ≠ gb544)) ?hr ?hp (fun _ hk => hk) ((show ∀ k_, w93.heap.size ≤ k_ → (fun k_ => some k_ ≠ (.slice (some ad546) t533.length co79 : Value).ownBlock ∧ k_ ≠ gb536 ∧ k_ ≠ gb540 ∧ k_ ≠ gb544) k_ from fun k_ hk => ⟨Kd.fresh' (Kd.N_lt (by (with_reducible repeat (first | apply Kd.N_alloc | apply Kd.N_drewN | apply Kd.N_drew)); exact HO535.out)) k_ hk, Kd.freshB (g := gb536) (o := .cells #[.int .i64 t530, .int .i64 t531, .int .i64 t532, .slice (some ad546) t533.length co79] 25 (0, 0)) (bk BK536) k_ hk, Kd.freshB (g := gb540) (o := .cells #[.int .i64 t537, .int .i64 t538] 31 (0, 0)) (bk BK540) k_ hk, Kd.freshB (g := gb544) (o := .cells #[.int .i64 t541, .int .i64 t542] 31 (0, 0)) (bk BK544) k_ hk⟩) _ (Nat.le_refl _)) (Below.refl _ _) (Nat.le_refl _) (by simp) ?_; (case hd => rfl); (case hg => rfl); (case hr => first | (go_simp; done) | (go_simp; rfl)); (case hp => exact (Reps.c4 (show Kd.FK k25 _ _ (⟨(rd_T25 t533 1).f0, (rd_T25 t533 1).f1, (rd_T25 t533 1).f2, (rd_T25 t533 1).f3⟩ : S25) [.int .i64 ((rd_T25 t533 1).f0), .int .i64 ((rd_T25 t533 1).f1), .int .i64 ((rd_T25 t533 1).f2), .slice A546_3 ((rd_T25 t533 1).f3).length c546_3] from (k25_mkF _ _ (⟨(rd_T25 t533 1).f0, (rd_T25 t533 1).f1, (rd_T25 t533 1).f2, (rd_T25 t533 1).f3⟩ : S25) (Kd.V_reads' (Kd.V_mono (ok' := (fun k_ => some k_ ≠ (.slice (some ad546) t533.length co79 : Value).ownBlock ∧ k_ ≠ gb536 ∧ k_ ≠ gb540 ∧ k_ ≠ gb544)) (HL546_3.out) (fun k_ hk => ⟨hk.2, ⟨hk.1.1.1.2, ⟨hk.1.1.2, hk.1.2⟩⟩⟩))).2.1 (Kd.V_F (Kd.V_mono (ok' := (fun k_ => some k_ ≠ (.slice (some ad546) t533.length co79 : Value).ownBlock ∧ k_ ≠ gb536 ∧ k_ ≠ gb540 ∧ k_ ≠ gb544)) (HL546_3.out) (fun k_ hk => ⟨hk.2, ⟨hk.1.1.1.2, ⟨hk.1.1.2, hk.1.2⟩⟩⟩))))) (Reps.c4 (show Kd.FK k25 _ _ (⟨(rd_T25 t533 0).f0, (rd_T25 t533 0).f1, (rd_T25 t533 0).f2, (rd_T25 t533 0).f3⟩ : S25) [.int .i64 ((rd_T25 t533 0).f0), .int .i64 ((rd_T25 t533 0).f1), .int .i64 ((rd_T25 t533 0).f2), .slice A547_3 ((rd_T25 t533 0).f3).length c547_3] from (k25_mkF _ _ (⟨(rd_T25 t533 0).f0, (rd_T25 t533 0).f1, (rd_T25 t533 0).f2, (rd_T25 t533 0).f3⟩ : S25) (Kd.V_reads' (Kd.V_mono (ok' := (fun k_ => some k_ ≠ (.slice (some ad546) t533.length co79 : Value).ownBlock ∧ k_ ≠ gb536 ∧ k_ ≠ gb540 ∧ k_ ≠ gb544)) (HL547_3.out) (fun k_ hk => ⟨hk.2, ⟨hk.1.1.1.2, ⟨hk.1.1.2, hk.1.2⟩⟩⟩))).2.1 (Kd.V_F (Kd.V_mono (ok' := (fun k_ => some k_ ≠ (.slice (some ad546) t533.length co79 : Value).ownBlock ∧ k_ ≠ gb536 ∧ k_ ≠ gb540 ∧ k_ ≠ gb544)) (HL547_3.out) (fun k_ hk => ⟨hk.2, ⟨hk.1.1.1.2, ⟨hk.1.1.2, hk.1.2⟩⟩⟩))))) (Reps.none _ _))))
           intro v549 w94 ho95 hb hg_ hnew_
           have HS4_ := (hb.cell (World.block_lt_of_cell? _ _ (hHeld.2.2.2.2.1))).trans (hHeld.2.2.2.2.1)
           have HS5_ := (hb.cell (World.block_lt_of_cell? _ _ (hHeld.2.2.2.2.2.1))).trans (hHeld.2.2.2.2.2.1)
           have HS6_ := (hb.cell (World.block_lt_of_cell? _ _ (hHeld.2.2.2.2.2.2.1))).trans (hHeld.2.2.2.2.2.2.1)
           have HS7_ := (hb.cell (World.block_lt_of_cell? _ _ (hHeld.2.2.2.2.2.2.2.1))).trans (hHeld.2.2.2.2.2.2.2.1)
           have HS8_ := (hb.cell (World.block_lt_of_cell? _ _ (hHeld.2.2.2.2.2.2.2.2.1))).trans (hHeld.2.2.2.2.2.2.2.2.1)
           have HS9_ := (hb.cell (World.block_lt_of_cell? _ _ (hHeld.2.2.2.2.2.2.2.2.2.1))).trans (hHeld.2.2.2.2.2.2.2.2.2.1)
           have HS10_ := (hb.cell (World.block_lt_of_cell? _ _ (hHeld.2.2.2.2.2.2.2.2.2.2.1))).trans (hHeld.2.2.2.2.2.2.2.2.2.2.1)
           have HS11_ := (hb.cell (World.block_lt_of_cell? _ _ (hHeld.2.2.2.2.2.2.2.2.2.2.2))).trans (hHeld.2.2.2.2.2.2.2.2.2.2.2)
           clear hg_ hnew_
           (first | rw [← Ny548.out] at ho95 | (simp only [Int.reduceToNat] at ho95; rw [← Ny548.out] at ho95))
           have HO550 := Aside0.mk (Kd.N_lower ho95 (below_size (hzs HB)))
           replace HO535 := Aside0.mk (Kd.N_elder' (by (with_reducible repeat (first | apply Kd.N_alloc | apply Kd.N_drewN | apply Kd.N_drew)); exact HO535.out) (Kd.N_base ho95) hb)
           replace HL546_3 := Aside0.mk (Kd.V_elder' (by (with_reducible repeat (first | apply Kd.V_alloc | apply Kd.V_drewN | apply Kd.V_drew)); exact HL546_3.out) (Kd.N_base ho95) hb)
           replace HL547_3 := Aside0.mk (Kd.V_elder' (by (with_reducible repeat (first | apply Kd.V_alloc | apply Kd.V_drewN | apply Kd.V_drew)); exact HL547_3.out) (Kd.N_base ho95) hb)
           replace BK536 := bb (bk BK536) hb
           replace BK540 := bb (bk BK540) hb
           replace BK544 := bb (bk BK544) hb
           replace HR546_3 := Aside0.mk (Kd.C_below (by repeat (first | (with_reducible exact HR546_3.out) | (with_reducible refine Kd.C_alloc ?_ _) | (with_reducible refine Kd.C_drewN ?_ _) | (with_reducible refine Kd.C_drew ?_) | exact HR546_3.out)) hb)
           replace HR547_3 := Aside0.mk (Kd.C_below (by repeat (first | (with_reducible exact HR547_3.out) | (with_reducible refine Kd.C_alloc ?_ _) | (with_reducible refine Kd.C_drewN ?_ _) | (with_reducible refine Kd.C_drew ?_) | exact HR547_3.out)) hb)
           replace HB := hbb (hzs HB) hb
           clear hb ho95
           obtain ⟨Ao96, co96, eo96⟩ := Kd.N_slice HO550.out
           (first | subst eo96 | (injection eo96 with f1_ f2_ f3_; have f4_ := f1_.symm; have f5_ := f3_.symm; clear f1_ f2_ f3_; subst f4_; subst f5_))
           refine hK.out _ _ ⟨cw0 BK536, cw1 BK536, (blk_cell BK536.out 2).trans rfl, (blk_cell BK536.out 3).trans rfl, HS4_, HS5_, HS6_, HS7_, HS8_, HS9_, HS10_, HS11_⟩ (fun hHeld => ?_)
           clear hK K
           refine nP ?_
           refine pU 11 68 #[true, true, true, true, true, true, true, true, true, true, true, true, false, false, false, false, false, false, false] HT_ ?_
           refine tW 12 16 69 8 #[true, true, true, true, true, true, true, true, true, true, true, true, true, false, false, false, false, false, false] #[true, true, true, true, true, true, true, true, true, true, true, true, false, false, false, false, true, false, false] HT_ (fun K hK => ?_) (fun K hK => ?_)
           ·skip
            refine gS Try.func18 #[.agg #[.int .i64 t530, .int .i64 0, .int .i64 0, .slice Ao96 y548.length co96]] ?_
            with_reducible refine (impl_ExprSpan.calls k t530 0 0 _ _ y548 t551 t552 t553 _ ?side1 ?side2 A74.out).mono ?_
            (case side1 => repeat (first | exact (Kd.N_reads' HO550.out).2.2 | (with_reducible refine Kd.C_alloc ?_ _) | (with_reducible refine Kd.C_drewN ?_ _) | (with_reducible refine Kd.C_drew ?_)))
            (case side2 => exact (Kd.N_reads' HO550.out).2.1)
            rintro e w97 ⟨rfl, hb⟩
            have HS4_ := (hb.cell (World.block_lt_of_cell? _ _ (hHeld.2.2.2.2.1))).trans (hHeld.2.2.2.2.1)
            have HS5_ := (hb.cell (World.block_lt_of_cell? _ _ (hHeld.2.2.2.2.2.1))).trans (hHeld.2.2.2.2.2.1)
            have HS6_ := (hb.cell (World.block_lt_of_cell? _ _ (hHeld.2.2.2.2.2.2.1))).trans (hHeld.2.2.2.2.2.2.1)
            have HS7_ := (hb.cell (World.block_lt_of_cell? _ _ (hHeld.2.2.2.2.2.2.2.1))).trans (hHeld.2.2.2.2.2.2.2.1)
            have HS8_ := (hb.cell (World.block_lt_of_cell? _ _ (hHeld.2.2.2.2.2.2.2.2.1))).trans (hHeld.2.2.2.2.2.2.2.2.1)
            have HS9_ := (hb.cell (World.block_lt_of_cell? _ _ (hHeld.2.2.2.2.2.2.2.2.2.1))).trans (hHeld.2.2.2.2.2.2.2.2.2.1)
            have HS10_ := (hb.cell (World.block_lt_of_cell? _ _ (hHeld.2.2.2.2.2.2.2.2.2.2.1))).trans (hHeld.2.2.2.2.2.2.2.2.2.2.1)
            have HS11_ := (hb.cell (World.block_lt_of_cell? _ _ (hHeld.2.2.2.2.2.2.2.2.2.2.2))).trans (hHeld.2.2.2.2.2.2.2.2.2.2.2)
            refine ⟨_, rfl, ?_⟩
            replace HO535 := Aside0.mk (Kd.N_below (by (with_reducible repeat (first | apply Kd.N_alloc | apply Kd.N_drewN | apply Kd.N_drew)); exact HO535.out) hb)
            replace HL546_3 := Aside0.mk (Kd.V_below (by (with_reducible repeat (first | apply Kd.V_alloc | apply Kd.V_drewN | apply Kd.V_drew)); exact HL546_3.out) hb)
            replace HL547_3 := Aside0.mk (Kd.V_below (by (with_reducible repeat (first | apply Kd.V_alloc | apply Kd.V_drewN | apply Kd.V_drew)); exact HL547_3.out) hb)
            replace HO550 := Aside0.mk (Kd.N_below (by (with_reducible repeat (first | apply Kd.N_alloc | apply Kd.N_drewN | apply Kd.N_drew)); exact HO550.out) hb)
            replace BK536 := bb (bk BK536) hb
            replace BK540 := bb (bk BK540) hb
            replace BK544 := bb (bk BK544) hb
            replace HR546_3 := Aside0.mk (Kd.C_below (by repeat (first | (with_reducible exact HR546_3.out) | (with_reducible refine Kd.C_alloc ?_ _) | (with_reducible refine Kd.C_drewN ?_ _) | (with_reducible refine Kd.C_drew ?_) | exact HR546_3.out)) hb)
            replace HR547_3 := Aside0.mk (Kd.C_below (by repeat (first | (with_reducible exact HR547_3.out) | (with_reducible refine Kd.C_alloc ?_ _) | (with_reducible refine Kd.C_drewN ?_ _) | (with_reducible refine Kd.C_drew ?_) | exact HR547_3.out)) hb)
            replace HB := hbb (hzs HB) hb
            clear hb
            refine hK.out _ _ ⟨cw0 BK536, cw1 BK536, (blk_cell BK536.out 2).trans rfl, (blk_cell BK536.out 3).trans rfl, HS4_, HS5_, HS6_, HS7_, HS8_, HS9_, HS10_, HS11_⟩ (fun hHeld => ?_)
            clear hK K
            refine nP ?_
            refine pU 13 56 #[true, true, true, true, true, true, true, true, true, true, true, true, true, true, false, false, false, false, false] HT_ ?_
            refine pU 14 70 #[true, true, true, true, true, true, true, true, true, true, true, true, true, true, true, false, false, false, false] HT_ ?_
            refine pU 15 71 #[true, true, true, true, true, true, true, true, true, true, true, true, true, true, true, true, false, false, false] HT_ ?_
            refine oN 16 8 #[true, true, true, true, true, true, true, true, true, true, true, true, true, true, true, true, true, false, false] HT_ (fun K hK => ?_)
            refine bS 8 #[.int .i64 0, .int .i64 0] 31 ?_
            intro gb554 hg w98 hbox hb
            have HS4_ := (hb.cell (World.block_lt_of_cell? _ _ (hHeld.2.2.2.2.1))).trans (hHeld.2.2.2.2.1)
            have HS5_ := (hb.cell (World.block_lt_of_cell? _ _ (hHeld.2.2.2.2.2.1))).trans (hHeld.2.2.2.2.2.1)
            have HS6_ := (hb.cell (World.block_lt_of_cell? _ _ (hHeld.2.2.2.2.2.2.1))).trans (hHeld.2.2.2.2.2.2.1)
            have HS7_ := (hb.cell (World.block_lt_of_cell? _ _ (hHeld.2.2.2.2.2.2.2.1))).trans (hHeld.2.2.2.2.2.2.2.1)
            have HS8_ := (hb.cell (World.block_lt_of_cell? _ _ (hHeld.2.2.2.2.2.2.2.2.1))).trans (hHeld.2.2.2.2.2.2.2.2.1)
            have HS9_ := (hb.cell (World.block_lt_of_cell? _ _ (hHeld.2.2.2.2.2.2.2.2.2.1))).trans (hHeld.2.2.2.2.2.2.2.2.2.1)
            have HS10_ := (hb.cell (World.block_lt_of_cell? _ _ (hHeld.2.2.2.2.2.2.2.2.2.2.1))).trans (hHeld.2.2.2.2.2.2.2.2.2.2.1)
            have HS11_ := (hb.cell (World.block_lt_of_cell? _ _ (hHeld.2.2.2.2.2.2.2.2.2.2.2))).trans (hHeld.2.2.2.2.2.2.2.2.2.2.2)
            have BK554 := Aside0.mk (hbox)
            have GE554 := gw hg (hzs HB)
            have GW554 := GE554
            have NB536_554 := nl hg (bk BK536)
            have NB554_536 := ng hg (bk BK536)
            have NB540_554 := nl hg (bk BK540)
            have NB554_540 := ng hg (bk BK540)
            have NB544_554 := nl hg (bk BK544)
            have NB554_544 := ng hg (bk BK544)
            replace HO535 := Aside0.mk (Kd.N_below (Kd.N_elderB (by (with_reducible repeat (first | apply Kd.N_alloc | apply Kd.N_drewN | apply Kd.N_drew)); exact HO535.out) gb554 (Nat.le_of_eq hg.symm)) hb)
            replace HL546_3 := Aside0.mk (Kd.V_below (Kd.V_elderB (by (with_reducible repeat (first | apply Kd.V_alloc | apply Kd.V_drewN | apply Kd.V_drew)); exact HL546_3.out) gb554 (Nat.le_of_eq hg.symm)) hb)
            replace HL547_3 := Aside0.mk (Kd.V_below (Kd.V_elderB (by (with_reducible repeat (first | apply Kd.V_alloc | apply Kd.V_drewN | apply Kd.V_drew)); exact HL547_3.out) gb554 (Nat.le_of_eq hg.symm)) hb)
            replace HO550 := Aside0.mk (Kd.N_below (Kd.N_elderB (by (with_reducible repeat (first | apply Kd.N_alloc | apply Kd.N_drewN | apply Kd.N_drew)); exact HO550.out) gb554 (Nat.le_of_eq hg.symm)) hb)
            replace BK536 := bb (bk BK536) hb
            replace BK540 := bb (bk BK540) hb
            replace BK544 := bb (bk BK544) hb
            replace HR546_3 := Aside0.mk (Kd.C_below (by repeat (first | (with_reducible exact HR546_3.out) | (with_reducible refine Kd.C_alloc ?_ _) | (with_reducible refine Kd.C_drewN ?_ _) | (with_reducible refine Kd.C_drew ?_) | exact HR546_3.out)) hb)
            replace HR547_3 := Aside0.mk (Kd.C_below (by repeat (first | (with_reducible exact HR547_3.out) | (with_reducible refine Kd.C_alloc ?_ _) | (with_reducible refine Kd.C_drewN ?_ _) | (with_reducible refine Kd.C_drew ?_) | exact HR547_3.out)) hb)
            replace HB := hbb (hzs HB) hb
            clear hb hbox hg
            refine hK.out _ _ ⟨cw0 BK536, cw1 BK536, (blk_cell BK536.out 2).trans rfl, (blk_cell BK536.out 3).trans rfl, HS4_, HS5_, HS6_, HS7_, HS8_, HS9_, HS10_, HS11_⟩ (fun hHeld => ?_)
            clear hK K
            refine nP ?_
            exact nm (hCont (.slice Ao96 y548.length co96, gb554) _ ⟨hHeld, (by (with_reducible repeat (first | apply Kd.V_alloc | apply Kd.V_drewN | apply Kd.V_drew)); exact Kd.V_mono HL546_3.out (fun _ hk => ⟨hk.1.1.2, ⟨hk.1.2, ⟨hk.1.1.1.1.1.2, ⟨hk.1.1.1.1.2, ⟨hk.1.1.1.2, hk.2⟩⟩⟩⟩⟩)), (by (with_reducible repeat (first | apply Kd.V_alloc | apply Kd.V_drewN | apply Kd.V_drew)); exact Kd.V_mono HL547_3.out (fun _ hk => ⟨hk.1.1.2, ⟨hk.1.2, ⟨hk.1.1.1.1.1.2, ⟨hk.1.1.1.1.2, ⟨hk.1.1.1.2, hk.2⟩⟩⟩⟩⟩)), (by (with_reducible repeat (first | apply Kd.N_alloc | apply Kd.N_drewN | apply Kd.N_drew)); exact Kd.N_mono HO535.out (fun _ hk => ⟨hk.1.2, ⟨hk.1.1.1.1.2, ⟨hk.1.1.1.2, ⟨hk.1.1.2, hk.2⟩⟩⟩⟩)), (by (with_reducible repeat (first | apply Kd.N_alloc | apply Kd.N_drewN | apply Kd.N_drew)); exact Kd.N_mono HO550.out (fun _ hk => ⟨hk.1.1, ⟨hk.1.2.1, ⟨hk.1.2.2.1, ⟨hk.1.2.2.2, hk.2⟩⟩⟩⟩)), (bk BK536), (bk BK540), (bk BK544), (bk BK554), GW554.out, GE554.out, NB536_554.out, NB554_536.out, NB540_554.out, NB554_540.out, NB544_554.out, NB554_544.out, (hzs HB)⟩)
           ·skip
            refine bS 8 #[.int .i64 0, .int .i64 0] 31 ?_
            intro gb554 hg w97 hbox hb
            have HS4_ := (hb.cell (World.block_lt_of_cell? _ _ (hHeld.2.2.2.2.1))).trans (hHeld.2.2.2.2.1)
            have HS5_ := (hb.cell (World.block_lt_of_cell? _ _ (hHeld.2.2.2.2.2.1))).trans (hHeld.2.2.2.2.2.1)
            have HS6_ := (hb.cell (World.block_lt_of_cell? _ _ (hHeld.2.2.2.2.2.2.1))).trans (hHeld.2.2.2.2.2.2.1)
            have HS7_ := (hb.cell (World.block_lt_of_cell? _ _ (hHeld.2.2.2.2.2.2.2.1))).trans (hHeld.2.2.2.2.2.2.2.1)
            have HS8_ := (hb.cell (World.block_lt_of_cell? _ _ (hHeld.2.2.2.2.2.2.2.2.1))).trans (hHeld.2.2.2.2.2.2.2.2.1)
            have HS9_ := (hb.cell (World.block_lt_of_cell? _ _ (hHeld.2.2.2.2.2.2.2.2.2.1))).trans (hHeld.2.2.2.2.2.2.2.2.2.1)
            have HS10_ := (hb.cell (World.block_lt_of_cell? _ _ (hHeld.2.2.2.2.2.2.2.2.2.2.1))).trans (hHeld.2.2.2.2.2.2.2.2.2.2.1)
            have HS11_ := (hb.cell (World.block_lt_of_cell? _ _ (hHeld.2.2.2.2.2.2.2.2.2.2.2))).trans (hHeld.2.2.2.2.2.2.2.2.2.2.2)
            have BK554 := Aside0.mk (hbox)
            have GE554 := gw hg (hzs HB)
            have GW554 := GE554
            have NB536_554 := nl hg (bk BK536)
            have NB554_536 := ng hg (bk BK536)
            have NB540_554 := nl hg (bk BK540)
            have NB554_540 := ng hg (bk BK540)
            have NB544_554 := nl hg (bk BK544)
            have NB554_544 := ng hg (bk BK544)
            replace HO535 := Aside0.mk (Kd.N_below (Kd.N_elderB (by (with_reducible repeat (first | apply Kd.N_alloc | apply Kd.N_drewN | apply Kd.N_drew)); exact HO535.out) gb554 (Nat.le_of_eq hg.symm)) hb)
            replace HL546_3 := Aside0.mk (Kd.V_below (Kd.V_elderB (by (with_reducible repeat (first | apply Kd.V_alloc | apply Kd.V_drewN | apply Kd.V_drew)); exact HL546_3.out) gb554 (Nat.le_of_eq hg.symm)) hb)
            replace HL547_3 := Aside0.mk (Kd.V_below (Kd.V_elderB (by (with_reducible repeat (first | apply Kd.V_alloc | apply Kd.V_drewN | apply Kd.V_drew)); exact HL547_3.out) gb554 (Nat.le_of_eq hg.symm)) hb)
            replace HO550 := Aside0.mk (Kd.N_below (Kd.N_elderB (by (with_reducible repeat (first | apply Kd.N_alloc | apply Kd.N_drewN | apply Kd.N_drew)); exact HO550.out) gb554 (Nat.le_of_eq hg.symm)) hb)
            replace BK536 := bb (bk BK536) hb
            replace BK540 := bb (bk BK540) hb
            replace BK544 := bb (bk BK544) hb
            replace HR546_3 := Aside0.mk (Kd.C_below (by repeat (first | (with_reducible exact HR546_3.out) | (with_reducible refine Kd.C_alloc ?_ _) | (with_reducible refine Kd.C_drewN ?_ _) | (with_reducible refine Kd.C_drew ?_) | exact HR546_3.out)) hb)
            replace HR547_3 := Aside0.mk (Kd.C_below (by repeat (first | (with_reducible exact HR547_3.out) | (with_reducible refine Kd.C_alloc ?_ _) | (with_reducible refine Kd.C_drewN ?_ _) | (with_reducible refine Kd.C_drew ?_) | exact HR547_3.out)) hb)
            replace HB := hbb (hzs HB) hb
            clear hb hbox hg
            refine hK.out _ _ ⟨cw0 BK536, cw1 BK536, (blk_cell BK536.out 2).trans rfl, (blk_cell BK536.out 3).trans rfl, HS4_, HS5_, HS6_, HS7_, HS8_, HS9_, HS10_, HS11_⟩ (fun hHeld => ?_)
            clear hK K
            refine nP ?_
            refine oN 12 69 #[true, true, true, true, true, true, true, true, true, true, true, true, true, false, false, false, true, false, false] HT_ (fun K hK => ?_)
            refine gS Try.func18 #[.agg #[.int .i64 t530, .int .i64 0, .int .i64 0, .slice Ao96 y548.length co96]] ?_
            with_reducible refine (impl_ExprSpan.calls k t530 0 0 _ _ y548 t551 t552 t553 _ ?side1 ?side2 A74.out).mono ?_
            (case side1 => repeat (first | exact (Kd.N_reads' HO550.out).2.2 | (with_reducible refine Kd.C_alloc ?_ _) | (with_reducible refine Kd.C_drewN ?_ _) | (with_reducible refine Kd.C_drew ?_)))
            (case side2 => exact (Kd.N_reads' HO550.out).2.1)
            rintro e w98 ⟨rfl, hb⟩
            have HS4_ := (hb.cell (World.block_lt_of_cell? _ _ (hHeld.2.2.2.2.1))).trans (hHeld.2.2.2.2.1)
            have HS5_ := (hb.cell (World.block_lt_of_cell? _ _ (hHeld.2.2.2.2.2.1))).trans (hHeld.2.2.2.2.2.1)
            have HS6_ := (hb.cell (World.block_lt_of_cell? _ _ (hHeld.2.2.2.2.2.2.1))).trans (hHeld.2.2.2.2.2.2.1)
            have HS7_ := (hb.cell (World.block_lt_of_cell? _ _ (hHeld.2.2.2.2.2.2.2.1))).trans (hHeld.2.2.2.2.2.2.2.1)
            have HS8_ := (hb.cell (World.block_lt_of_cell? _ _ (hHeld.2.2.2.2.2.2.2.2.1))).trans (hHeld.2.2.2.2.2.2.2.2.1)
            have HS9_ := (hb.cell (World.block_lt_of_cell? _ _ (hHeld.2.2.2.2.2.2.2.2.2.1))).trans (hHeld.2.2.2.2.2.2.2.2.2.1)
            have HS10_ := (hb.cell (World.block_lt_of_cell? _ _ (hHeld.2.2.2.2.2.2.2.2.2.2.1))).trans (hHeld.2.2.2.2.2.2.2.2.2.2.1)
            have HS11_ := (hb.cell (World.block_lt_of_cell? _ _ (hHeld.2.2.2.2.2.2.2.2.2.2.2))).trans (hHeld.2.2.2.2.2.2.2.2.2.2.2)
            refine ⟨_, rfl, ?_⟩
            replace HO535 := Aside0.mk (Kd.N_below (by (with_reducible repeat (first | apply Kd.N_alloc | apply Kd.N_drewN | apply Kd.N_drew)); exact HO535.out) hb)
            replace HL546_3 := Aside0.mk (Kd.V_below (by (with_reducible repeat (first | apply Kd.V_alloc | apply Kd.V_drewN | apply Kd.V_drew)); exact HL546_3.out) hb)
            replace HL547_3 := Aside0.mk (Kd.V_below (by (with_reducible repeat (first | apply Kd.V_alloc | apply Kd.V_drewN | apply Kd.V_drew)); exact HL547_3.out) hb)
            replace HO550 := Aside0.mk (Kd.N_below (by (with_reducible repeat (first | apply Kd.N_alloc | apply Kd.N_drewN | apply Kd.N_drew)); exact HO550.out) hb)
            replace BK536 := bb (bk BK536) hb
            replace BK540 := bb (bk BK540) hb
            replace BK544 := bb (bk BK544) hb
            replace HR546_3 := Aside0.mk (Kd.C_below (by repeat (first | (with_reducible exact HR546_3.out) | (with_reducible refine Kd.C_alloc ?_ _) | (with_reducible refine Kd.C_drewN ?_ _) | (with_reducible refine Kd.C_drew ?_) | exact HR546_3.out)) hb)
            replace HR547_3 := Aside0.mk (Kd.C_below (by repeat (first | (with_reducible exact HR547_3.out) | (with_reducible refine Kd.C_alloc ?_ _) | (with_reducible refine Kd.C_drewN ?_ _) | (with_reducible refine Kd.C_drew ?_) | exact HR547_3.out)) hb)
            replace BK554 := bb (bk BK554) hb
            replace HB := hbb (hzs HB) hb
            clear hb
            refine hK.out _ _ ⟨cw0 BK536, cw1 BK536, (blk_cell BK536.out 2).trans rfl, (blk_cell BK536.out 3).trans rfl, HS4_, HS5_, HS6_, HS7_, HS8_, HS9_, HS10_, HS11_⟩ (fun hHeld => ?_)
            clear hK K
            refine nP ?_
            refine pU 13 56 #[true, true, true, true, true, true, true, true, true, true, true, true, true, true, false, false, true, false, false] HT_ ?_
            refine pU 14 70 #[true, true, true, true, true, true, true, true, true, true, true, true, true, true, true, false, true, false, false] HT_ ?_
            refine pU 15 71 #[true, true, true, true, true, true, true, true, true, true, true, true, true, true, true, true, true, false, false] HT_ ?_
            exact nm (hCont (.slice Ao96 y548.length co96, gb554) _ ⟨hHeld, (by (with_reducible repeat (first | apply Kd.V_alloc | apply Kd.V_drewN | apply Kd.V_drew)); exact Kd.V_mono HL546_3.out (fun _ hk => ⟨hk.1.1.2, ⟨hk.1.2, ⟨hk.1.1.1.1.1.2, ⟨hk.1.1.1.1.2, ⟨hk.1.1.1.2, hk.2⟩⟩⟩⟩⟩)), (by (with_reducible repeat (first | apply Kd.V_alloc | apply Kd.V_drewN | apply Kd.V_drew)); exact Kd.V_mono HL547_3.out (fun _ hk => ⟨hk.1.1.2, ⟨hk.1.2, ⟨hk.1.1.1.1.1.2, ⟨hk.1.1.1.1.2, ⟨hk.1.1.1.2, hk.2⟩⟩⟩⟩⟩)), (by (with_reducible repeat (first | apply Kd.N_alloc | apply Kd.N_drewN | apply Kd.N_drew)); exact Kd.N_mono HO535.out (fun _ hk => ⟨hk.1.2, ⟨hk.1.1.1.1.2, ⟨hk.1.1.1.2, ⟨hk.1.1.2, hk.2⟩⟩⟩⟩)), (by (with_reducible repeat (first | apply Kd.N_alloc | apply Kd.N_drewN | apply Kd.N_drew)); exact Kd.N_mono HO550.out (fun _ hk => ⟨hk.1.1, ⟨hk.1.2.1, ⟨hk.1.2.2.1, ⟨hk.1.2.2.2, hk.2⟩⟩⟩⟩)), (bk BK536), (bk BK540), (bk BK544), (bk BK554), GW554.out, GE554.out, NB536_554.out, NB554_536.out, NB540_554.out, NB554_540.out, NB544_554.out, NB554_544.out, (hzs HB)⟩)
          ·skip
           refine bS 8 #[.int .i64 0, .int .i64 0] 31 ?_
           intro gb554 hg w94 hbox hb
           have HS4_ := (hb.cell (World.block_lt_of_cell? _ _ (hHeld.2.2.2.2.1))).trans (hHeld.2.2.2.2.1)
           have HS5_ := (hb.cell (World.block_lt_of_cell? _ _ (hHeld.2.2.2.2.2.1))).trans (hHeld.2.2.2.2.2.1)
           have HS6_ := (hb.cell (World.block_lt_of_cell? _ _ (hHeld.2.2.2.2.2.2.1))).trans (hHeld.2.2.2.2.2.2.1)
           have HS7_ := (hb.cell (World.block_lt_of_cell? _ _ (hHeld.2.2.2.2.2.2.2.1))).trans (hHeld.2.2.2.2.2.2.2.1)
           have HS8_ := (hb.cell (World.block_lt_of_cell? _ _ (hHeld.2.2.2.2.2.2.2.2.1))).trans (hHeld.2.2.2.2.2.2.2.2.1)
           have HS9_ := (hb.cell (World.block_lt_of_cell? _ _ (hHeld.2.2.2.2.2.2.2.2.2.1))).trans (hHeld.2.2.2.2.2.2.2.2.2.1)
           have HS10_ := (hb.cell (World.block_lt_of_cell? _ _ (hHeld.2.2.2.2.2.2.2.2.2.2.1))).trans (hHeld.2.2.2.2.2.2.2.2.2.2.1)
           have HS11_ := (hb.cell (World.block_lt_of_cell? _ _ (hHeld.2.2.2.2.2.2.2.2.2.2.2))).trans (hHeld.2.2.2.2.2.2.2.2.2.2.2)
           have BK554 := Aside0.mk (hbox)
           have GE554 := gw hg (hzs HB)
           have GW554 := GE554
           have NB536_554 := nl hg (bk BK536)
           have NB554_536 := ng hg (bk BK536)
           have NB540_554 := nl hg (bk BK540)
           have NB554_540 := ng hg (bk BK540)
           have NB544_554 := nl hg (bk BK544)
           have NB554_544 := ng hg (bk BK544)
           replace HO535 := Aside0.mk (Kd.N_below (Kd.N_elderB (by (with_reducible repeat (first | apply Kd.N_alloc | apply Kd.N_drewN | apply Kd.N_drew)); exact HO535.out) gb554 (Nat.le_of_eq hg.symm)) hb)
           replace HL546_3 := Aside0.mk (Kd.V_below (Kd.V_elderB (by (with_reducible repeat (first | apply Kd.V_alloc | apply Kd.V_drewN | apply Kd.V_drew)); exact HL546_3.out) gb554 (Nat.le_of_eq hg.symm)) hb)
           replace HL547_3 := Aside0.mk (Kd.V_below (Kd.V_elderB (by (with_reducible repeat (first | apply Kd.V_alloc | apply Kd.V_drewN | apply Kd.V_drew)); exact HL547_3.out) gb554 (Nat.le_of_eq hg.symm)) hb)
           replace BK536 := bb (bk BK536) hb
           replace BK540 := bb (bk BK540) hb
           replace BK544 := bb (bk BK544) hb
           replace HR546_3 := Aside0.mk (Kd.C_below (by repeat (first | (with_reducible exact HR546_3.out) | (with_reducible refine Kd.C_alloc ?_ _) | (with_reducible refine Kd.C_drewN ?_ _) | (with_reducible refine Kd.C_drew ?_) | exact HR546_3.out)) hb)
           replace HR547_3 := Aside0.mk (Kd.C_below (by repeat (first | (with_reducible exact HR547_3.out) | (with_reducible refine Kd.C_alloc ?_ _) | (with_reducible refine Kd.C_drewN ?_ _) | (with_reducible refine Kd.C_drew ?_) | exact HR547_3.out)) hb)
           replace HB := hbb (hzs HB) hb
           clear hb hbox hg
           refine hK.out _ _ ⟨cw0 BK536, cw1 BK536, (blk_cell BK536.out 2).trans rfl, (blk_cell BK536.out 3).trans rfl, HS4_, HS5_, HS6_, HS7_, HS8_, HS9_, HS10_, HS11_⟩ (fun hHeld => ?_)
           clear hK K
           refine nP ?_
           refine oN 10 67 #[true, true, true, true, true, true, true, true, true, true, true, false, false, false, false, false, true, false, false] HT_ (fun K hK => ?_)
           refine Kd.N_lit_step k25 _ 25 ?hg (N' := 67) ?hd (xs := ([(⟨(rd_T25 t533 1).f0, (rd_T25 t533 1).f1, (rd_T25 t533 1).f2, (rd_T25 t533 1).f3⟩ : S25), (⟨(rd_T25 t533 0).f0, (rd_T25 t533 0).f1, (rd_T25 t533 0).f2, (rd_T25 t533 0).f3⟩ : S25)] : List (S25))) (inner := [.int .i64 ((rd_T25 t533 1).f0), .int .i64 ((rd_T25 t533 1).f1), .int .i64 ((rd_T25 t533 1).f2), .slice A546_3 ((rd_T25 t533 1).f3).length c546_3, .int .i64 ((rd_T25 t533 0).f0), .int .i64 ((rd_T25 t533 0).f1), .int .i64 ((rd_T25 t533 0).f2), .slice A547_3 ((rd_T25 t533 0).f3).length c547_3]) (ok := (fun k_ => some k_ ≠ (.slice (some ad546) t533.length co79 : Value).ownBlock ∧ k_ ≠ gb536 ∧ k_ ≠ gb540 ∧ k_ ≠ gb544 ∧ k_ ≠ gb554)) (okp := (fun k_ => some k_ ≠ (.slice (some ad546) t533.length co79 : Value).ownBlock ∧ k_ ≠ gb536 ∧ k_ ≠ gb540 ∧ k_ ≠ gb544 ∧ k_ ≠ gb554)) ?hr ?hp (fun _ hk => hk) ((show ∀ k_, w94.heap.size ≤ k_ → (fun k_ => some k_ ≠ (.slice (some ad546) t533.length co79 : Value).ownBlock ∧ k_ ≠ gb536 ∧ k_ ≠ gb540 ∧ k_ ≠ gb544 ∧ k_ ≠ gb554) k_ from fun k_ hk => ⟨Kd.fresh' (Kd.N_lt (by (with_reducible repeat (first | apply Kd.N_alloc | apply Kd.N_drewN | apply Kd.N_drew)); exact HO535.out)) k_ hk, Kd.freshB (g := gb536) (o := .cells #[.int .i64 t530, .int .i64 t531, .int .i64 t532, .slice (some ad546) t533.length co79] 25 (0, 0)) (bk BK536) k_ hk, Kd.freshB (g := gb540) (o := .cells #[.int .i64 t537, .int .i64 t538] 31 (0, 0)) (bk BK540) k_ hk, Kd.freshB (g := gb544) (o := .cells #[.int .i64 t541, .int .i64 t542] 31 (0, 0)) (bk BK544) k_ hk, Kd.freshB (g := gb554) (o := .cells #[.int .i64 0, .int .i64 0] 31 (0, 0)) (bk BK554) k_ hk⟩) _ (Nat.le_refl _)) (Below.refl _ _) (Nat.le_refl _) (by simp) ?_; (case hd => rfl); (case hg => rfl); (case hr => first | (go_simp; done) | (go_simp; rfl)); (case hp => exact (Reps.c4 (show Kd.FK k25 _ _ (⟨(rd_T25 t533 1).f0, (rd_T25 t533 1).f1, (rd_T25 t533 1).f2, (rd_T25 t533 1).f3⟩ : S25) [.int .i64 ((rd_T25 t533 1).f0), .int .i64 ((rd_T25 t533 1).f1), .int .i64 ((rd_T25 t533 1).f2), .slice A546_3 ((rd_T25 t533 1).f3).length c546_3] from (k25_mkF _ _ (⟨(rd_T25 t533 1).f0, (rd_T25 t533 1).f1, (rd_T25 t533 1).f2, (rd_T25 t533 1).f3⟩ : S25) (Kd.V_reads' (Kd.V_mono (ok' := (fun k_ => some k_ ≠ (.slice (some ad546) t533.length co79 : Value).ownBlock ∧ k_ ≠ gb536 ∧ k_ ≠ gb540 ∧ k_ ≠ gb544 ∧ k_ ≠ gb554)) (HL546_3.out) (fun k_ hk => ⟨hk.1.2, ⟨hk.1.1.1.1.2, ⟨hk.1.1.1.2, ⟨hk.1.1.2, hk.2⟩⟩⟩⟩))).2.1 (Kd.V_F (Kd.V_mono (ok' := (fun k_ => some k_ ≠ (.slice (some ad546) t533.length co79 : Value).ownBlock ∧ k_ ≠ gb536 ∧ k_ ≠ gb540 ∧ k_ ≠ gb544 ∧ k_ ≠ gb554)) (HL546_3.out) (fun k_ hk => ⟨hk.1.2, ⟨hk.1.1.1.1.2, ⟨hk.1.1.1.2, ⟨hk.1.1.2, hk.2⟩⟩⟩⟩))))) (Reps.c4 (show Kd.FK k25 _ _ (⟨(rd_T25 t533 0).f0, (rd_T25 t533 0).f1, (rd_T25 t533 0).f2, (rd_T25 t533 0).f3⟩ : S25) [.int .i64 ((rd_T25 t533 0).f0), .int .i64 ((rd_T25 t533 0).f1), .int .i64 ((rd_T25 t533 0).f2), .slice A547_3 ((rd_T25 t533 0).f3).length c547_3] from (k25_mkF _ _ (⟨(rd_T25 t533 0).f0, (rd_T25 t533 0).f1, (rd_T25 t533 0).f2, (rd_T25 t533 0).f3⟩ : S25) (Kd.V_reads' (Kd.V_mono (ok' := (fun k_ => some k_ ≠ (.slice (some ad546) t533.length co79 : Value).ownBlock ∧ k_ ≠ gb536 ∧ k_ ≠ gb540 ∧ k_ ≠ gb544 ∧ k_ ≠ gb554)) (HL547_3.out) (fun k_ hk => ⟨hk.1.2, ⟨hk.1.1.1.1.2, ⟨hk.1.1.1.2, ⟨hk.1.1.2, hk.2⟩⟩⟩⟩))).2.1 (Kd.V_F (Kd.V_mono (ok' := (fun k_ => some k_ ≠ (.slice (some ad546) t533.length co79 : Value).ownBlock ∧ k_ ≠ gb536 ∧ k_ ≠ gb540 ∧ k_ ≠ gb544 ∧ k_ ≠ gb554)) (HL547_3.out) (fun k_ hk => ⟨hk.1.2, ⟨hk.1.1.1.1.2, ⟨hk.1.1.1.2, ⟨hk.1.1.2, hk.2⟩⟩⟩⟩))))) (Reps.none _ _))))
           intro v549 w95 ho96 hb hg_ hnew_
           have HS4_ := (hb.cell (World.block_lt_of_cell? _ _ (hHeld.2.2.2.2.1))).trans (hHeld.2.2.2.2.1)
           have HS5_ := (hb.cell (World.block_lt_of_cell? _ _ (hHeld.2.2.2.2.2.1))).trans (hHeld.2.2.2.2.2.1)
           have HS6_ := (hb.cell (World.block_lt_of_cell? _ _ (hHeld.2.2.2.2.2.2.1))).trans (hHeld.2.2.2.2.2.2.1)
           have HS7_ := (hb.cell (World.block_lt_of_cell? _ _ (hHeld.2.2.2.2.2.2.2.1))).trans (hHeld.2.2.2.2.2.2.2.1)
           have HS8_ := (hb.cell (World.block_lt_of_cell? _ _ (hHeld.2.2.2.2.2.2.2.2.1))).trans (hHeld.2.2.2.2.2.2.2.2.1)
           have HS9_ := (hb.cell (World.block_lt_of_cell? _ _ (hHeld.2.2.2.2.2.2.2.2.2.1))).trans (hHeld.2.2.2.2.2.2.2.2.2.1)
           have HS10_ := (hb.cell (World.block_lt_of_cell? _ _ (hHeld.2.2.2.2.2.2.2.2.2.2.1))).trans (hHeld.2.2.2.2.2.2.2.2.2.2.1)
           have HS11_ := (hb.cell (World.block_lt_of_cell? _ _ (hHeld.2.2.2.2.2.2.2.2.2.2.2))).trans (hHeld.2.2.2.2.2.2.2.2.2.2.2)
           clear hg_ hnew_
           (first | rw [← Ny548.out] at ho96 | (simp only [Int.reduceToNat] at ho96; rw [← Ny548.out] at ho96))
           have HO550 := Aside0.mk (Kd.N_lower ho96 (below_size (hzs HB)))
           replace HO535 := Aside0.mk (Kd.N_elder' (by (with_reducible repeat (first | apply Kd.N_alloc | apply Kd.N_drewN | apply Kd.N_drew)); exact HO535.out) (Kd.N_base ho96) hb)
           replace HL546_3 := Aside0.mk (Kd.V_elder' (by (with_reducible repeat (first | apply Kd.V_alloc | apply Kd.V_drewN | apply Kd.V_drew)); exact HL546_3.out) (Kd.N_base ho96) hb)
           replace HL547_3 := Aside0.mk (Kd.V_elder' (by (with_reducible repeat (first | apply Kd.V_alloc | apply Kd.V_drewN | apply Kd.V_drew)); exact HL547_3.out) (Kd.N_base ho96) hb)
           replace BK536 := bb (bk BK536) hb
           replace BK540 := bb (bk BK540) hb
           replace BK544 := bb (bk BK544) hb
           replace HR546_3 := Aside0.mk (Kd.C_below (by repeat (first | (with_reducible exact HR546_3.out) | (with_reducible refine Kd.C_alloc ?_ _) | (with_reducible refine Kd.C_drewN ?_ _) | (with_reducible refine Kd.C_drew ?_) | exact HR546_3.out)) hb)
           replace HR547_3 := Aside0.mk (Kd.C_below (by repeat (first | (with_reducible exact HR547_3.out) | (with_reducible refine Kd.C_alloc ?_ _) | (with_reducible refine Kd.C_drewN ?_ _) | (with_reducible refine Kd.C_drew ?_) | exact HR547_3.out)) hb)
           replace BK554 := bb (bk BK554) hb
           replace HB := hbb (hzs HB) hb
           clear hb ho96
           obtain ⟨Ao97, co97, eo97⟩ := Kd.N_slice HO550.out
           (first | subst eo97 | (injection eo97 with f1_ f2_ f3_; have f4_ := f1_.symm; have f5_ := f3_.symm; clear f1_ f2_ f3_; subst f4_; subst f5_))
           refine hK.out _ _ ⟨cw0 BK536, cw1 BK536, (blk_cell BK536.out 2).trans rfl, (blk_cell BK536.out 3).trans rfl, HS4_, HS5_, HS6_, HS7_, HS8_, HS9_, HS10_, HS11_⟩ (fun hHeld => ?_)
           clear hK K
           refine nP ?_
           refine pU 11 68 #[true, true, true, true, true, true, true, true, true, true, true, true, false, false, false, false, true, false, false] HT_ ?_
           refine oN 12 69 #[true, true, true, true, true, true, true, true, true, true, true, true, true, false, false, false, true, false, false] HT_ (fun K hK => ?_)
           refine gS Try.func18 #[.agg #[.int .i64 t530, .int .i64 0, .int .i64 0, .slice Ao97 y548.length co97]] ?_
           with_reducible refine (impl_ExprSpan.calls k t530 0 0 _ _ y548 t551 t552 t553 _ ?side1 ?side2 A74.out).mono ?_
           (case side1 => repeat (first | exact (Kd.N_reads' HO550.out).2.2 | (with_reducible refine Kd.C_alloc ?_ _) | (with_reducible refine Kd.C_drewN ?_ _) | (with_reducible refine Kd.C_drew ?_)))
           (case side2 => exact (Kd.N_reads' HO550.out).2.1)
           rintro e w98 ⟨rfl, hb⟩
           have HS4_ := (hb.cell (World.block_lt_of_cell? _ _ (hHeld.2.2.2.2.1))).trans (hHeld.2.2.2.2.1)
           have HS5_ := (hb.cell (World.block_lt_of_cell? _ _ (hHeld.2.2.2.2.2.1))).trans (hHeld.2.2.2.2.2.1)
           have HS6_ := (hb.cell (World.block_lt_of_cell? _ _ (hHeld.2.2.2.2.2.2.1))).trans (hHeld.2.2.2.2.2.2.1)
           have HS7_ := (hb.cell (World.block_lt_of_cell? _ _ (hHeld.2.2.2.2.2.2.2.1))).trans (hHeld.2.2.2.2.2.2.2.1)
           have HS8_ := (hb.cell (World.block_lt_of_cell? _ _ (hHeld.2.2.2.2.2.2.2.2.1))).trans (hHeld.2.2.2.2.2.2.2.2.1)
           have HS9_ := (hb.cell (World.block_lt_of_cell? _ _ (hHeld.2.2.2.2.2.2.2.2.2.1))).trans (hHeld.2.2.2.2.2.2.2.2.2.1)
           have HS10_ := (hb.cell (World.block_lt_of_cell? _ _ (hHeld.2.2.2.2.2.2.2.2.2.2.1))).trans (hHeld.2.2.2.2.2.2.2.2.2.2.1)
           have HS11_ := (hb.cell (World.block_lt_of_cell? _ _ (hHeld.2.2.2.2.2.2.2.2.2.2.2))).trans (hHeld.2.2.2.2.2.2.2.2.2.2.2)
           refine ⟨_, rfl, ?_⟩
           replace HO535 := Aside0.mk (Kd.N_below (by (with_reducible repeat (first | apply Kd.N_alloc | apply Kd.N_drewN | apply Kd.N_drew)); exact HO535.out) hb)
           replace HL546_3 := Aside0.mk (Kd.V_below (by (with_reducible repeat (first | apply Kd.V_alloc | apply Kd.V_drewN | apply Kd.V_drew)); exact HL546_3.out) hb)
           replace HL547_3 := Aside0.mk (Kd.V_below (by (with_reducible repeat (first | apply Kd.V_alloc | apply Kd.V_drewN | apply Kd.V_drew)); exact HL547_3.out) hb)
           replace HO550 := Aside0.mk (Kd.N_below (by (with_reducible repeat (first | apply Kd.N_alloc | apply Kd.N_drewN | apply Kd.N_drew)); exact HO550.out) hb)
           replace BK536 := bb (bk BK536) hb
           replace BK540 := bb (bk BK540) hb
           replace BK544 := bb (bk BK544) hb
           replace HR546_3 := Aside0.mk (Kd.C_below (by repeat (first | (with_reducible exact HR546_3.out) | (with_reducible refine Kd.C_alloc ?_ _) | (with_reducible refine Kd.C_drewN ?_ _) | (with_reducible refine Kd.C_drew ?_) | exact HR546_3.out)) hb)
           replace HR547_3 := Aside0.mk (Kd.C_below (by repeat (first | (with_reducible exact HR547_3.out) | (with_reducible refine Kd.C_alloc ?_ _) | (with_reducible refine Kd.C_drewN ?_ _) | (with_reducible refine Kd.C_drew ?_) | exact HR547_3.out)) hb)
           replace BK554 := bb (bk BK554) hb
           replace HB := hbb (hzs HB) hb
           clear hb
           refine hK.out _ _ ⟨cw0 BK536, cw1 BK536, (blk_cell BK536.out 2).trans rfl, (blk_cell BK536.out 3).trans rfl, HS4_, HS5_, HS6_, HS7_, HS8_, HS9_, HS10_, HS11_⟩ (fun hHeld => ?_)
           clear hK K
           refine nP ?_
           refine pU 13 56 #[true, true, true, true, true, true, true, true, true, true, true, true, true, true, false, false, true, false, false] HT_ ?_
           refine pU 14 70 #[true, true, true, true, true, true, true, true, true, true, true, true, true, true, true, false, true, false, false] HT_ ?_
           refine pU 15 71 #[true, true, true, true, true, true, true, true, true, true, true, true, true, true, true, true, true, false, false] HT_ ?_
           exact nm (hCont (.slice Ao97 y548.length co97, gb554) _ ⟨hHeld, (by (with_reducible repeat (first | apply Kd.V_alloc | apply Kd.V_drewN | apply Kd.V_drew)); exact Kd.V_mono HL546_3.out (fun _ hk => ⟨hk.1.1.2, ⟨hk.2, ⟨hk.1.1.1.1.1.2, ⟨hk.1.1.1.1.2, ⟨hk.1.1.1.2, hk.1.2⟩⟩⟩⟩⟩)), (by (with_reducible repeat (first | apply Kd.V_alloc | apply Kd.V_drewN | apply Kd.V_drew)); exact Kd.V_mono HL547_3.out (fun _ hk => ⟨hk.1.1.2, ⟨hk.2, ⟨hk.1.1.1.1.1.2, ⟨hk.1.1.1.1.2, ⟨hk.1.1.1.2, hk.1.2⟩⟩⟩⟩⟩)), (by (with_reducible repeat (first | apply Kd.N_alloc | apply Kd.N_drewN | apply Kd.N_drew)); exact Kd.N_mono HO535.out (fun _ hk => ⟨hk.2, ⟨hk.1.1.1.1.2, ⟨hk.1.1.1.2, ⟨hk.1.1.2, hk.1.2⟩⟩⟩⟩)), (by (with_reducible repeat (first | apply Kd.N_alloc | apply Kd.N_drewN | apply Kd.N_drew)); exact HO550.out), (bk BK536), (bk BK540), (bk BK544), (bk BK554), GW554.out, GE554.out, NB536_554.out, NB554_536.out, NB540_554.out, NB554_540.out, NB544_554.out, NB554_544.out, (hzs HB)⟩)
         rintro ⟨v549, gb554⟩ w99 ⟨hS_, h0_, h1_, h2_, h3_, h4_, h5_, h6_, h7_, h8_, h9_, h10_, h11_, h12_, h13_, h14_, h15_, h16_⟩
         have HL546_3 := Aside0.mk h0_
         have HL547_3 := Aside0.mk h1_
         replace HO535 := Aside0.mk h2_
         have HO550 := Aside0.mk h3_
         replace BK536 := Aside0.mk h4_
         replace BK540 := Aside0.mk h5_
         replace BK544 := Aside0.mk h6_
         have BK554 := Aside0.mk h7_
         have GW554 := Aside0.mk h8_
         have GE554 := Aside0.mk h9_
         have NB536_554 := Aside0.mk h10_
         have NB554_536 := Aside0.mk h11_
         have NB540_554 := Aside0.mk h12_
         have NB554_540 := Aside0.mk h13_
         have NB544_554 := Aside0.mk h14_
         have NB554_544 := Aside0.mk h15_
         replace HB := Aside0.mk h16_
         clear h0_ h1_ h2_ h3_ h4_ h5_ h6_ h7_ h8_ h9_ h10_ h11_ h12_ h13_ h14_ h15_ h16_
         have hHeld : w99.cell? ⟨gb536, 0, none⟩ = some (.int .i64 t530) ∧ w99.cell? ⟨gb536, 1, none⟩ = some (.int .i64 t531) ∧ w99.cell? ⟨gb536, 2, none⟩ = some (.int .i64 t532) ∧ w99.cell? ⟨gb536, 3, none⟩ = some (.slice (some ad546) t533.length co79) ∧ w99.cell? ⟨ad546.block, ad546.off + 4, none⟩ = some (.int .i64 ((rd_T25 t533 1).f0)) ∧ w99.cell? ⟨ad546.block, ad546.off + 4 + 1, none⟩ = some (.int .i64 ((rd_T25 t533 1).f1)) ∧ w99.cell? ⟨ad546.block, ad546.off + 4 + 2, none⟩ = some (.int .i64 ((rd_T25 t533 1).f2)) ∧ w99.cell? ⟨ad546.block, ad546.off + 4 + 3, none⟩ = some (.slice A546_3 ((rd_T25 t533 1).f3).length c546_3) ∧ w99.cell? ad546 = some (.int .i64 ((rd_T25 t533 0).f0)) ∧ w99.cell? ⟨ad546.block, ad546.off + 1, none⟩ = some (.int .i64 ((rd_T25 t533 0).f1)) ∧ w99.cell? ⟨ad546.block, ad546.off + 2, none⟩ = some (.int .i64 ((rd_T25 t533 0).f2)) ∧ w99.cell? ⟨ad546.block, ad546.off + 3, none⟩ = some (.slice A547_3 ((rd_T25 t533 0).f3).length c547_3) := hS_
         obtain ⟨Ao100, co100, eo100⟩ := Kd.N_slice HO550.out
         (first | subst eo100 | (injection eo100 with f1_ f2_ f3_; have f4_ := f1_.symm; have f5_ := f3_.symm; clear f1_ f2_ f3_; subst f4_; subst f5_))
         refine norm_ (a' := ?_) ?_ ?_
         rotate_left
         ·simp only [putAll, Act.put, List.setIfInBounds_toArray, List.set_cons_zero, List.set_cons_succ]
          rfl
         refine one_ (i := 17) (N := none) #[true, true, true, true, true, true, true, true, true, true, true, true, true, true, true, true, true, true, false] rfl rfl (one_of HT_.out (by kernel_rfl)) (by decide) (fun K hK => ?_)
         have hs101 : w99.cell? ⟨gb554, 0, none⟩ = some (.int .i64 0) := (blk_cell BK554.out 0).trans rfl
         have hfs101 := blk_frozen BK554.out 0
         have hns101_0 := NB536_554.out
         have hns101_1 := NB540_554.out
         have hns101_2 := NB544_554.out
         have hms101_0 := NB554_536.out
         have hms101_1 := NB554_540.out
         have hms101_2 := NB554_544.out
         have hs102 : w99.cell? ⟨gb554, 1, none⟩ = some (.int .i64 0) := (blk_cell BK554.out 1).trans rfl
         have hfs102 := blk_frozen BK554.out 1
         have hns102_0 := NB536_554.out
         have hns102_1 := NB540_554.out
         have hns102_2 := NB544_554.out
         have hms102_0 := NB554_536.out
         have hms102_1 := NB554_540.out
         have hms102_2 := NB554_544.out
         refine skip_ (w1 := ?_) (by rfl) rfl ?_ ?_
         rotate_left
         ·go_simp
          rfl
         refine hK.out _ _ ⟨((cell_far (p := ⟨gb554, _, none⟩) NB536_554.out _).trans (((cell_far (p := ⟨gb554, _, none⟩) NB536_554.out _).trans (hHeld.1)))), ((cell_far (p := ⟨gb554, _, none⟩) NB536_554.out _).trans (((cell_far (p := ⟨gb554, _, none⟩) NB536_554.out _).trans (hHeld.2.1)))), ((cell_far (p := ⟨gb554, _, none⟩) NB536_554.out _).trans (((cell_far (p := ⟨gb554, _, none⟩) NB536_554.out _).trans (hHeld.2.2.1)))), ((cell_far (p := ⟨gb554, _, none⟩) NB536_554.out _).trans (((cell_far (p := ⟨gb554, _, none⟩) NB536_554.out _).trans (hHeld.2.2.2.1)))), ((cell_far (p := ⟨gb554, _, none⟩) (by first | exact Kd.own_blk (Kd.N_away HO535.out (fun _ hk => hk.2.2.2.2)) | (rw [add_block]; exact Kd.own_blk (Kd.N_away HO535.out (fun _ hk => hk.2.2.2.2))) | (show (Addr.add _ _).block ≠ _; rw [add_block]; exact Kd.own_blk (Kd.N_away HO535.out (fun _ hk => hk.2.2.2.2))) | (dsimp only; exact Kd.own_blk (Kd.N_away HO535.out (fun _ hk => hk.2.2.2.2)))) _).trans (((cell_far (p := ⟨gb554, _, none⟩) (by first | exact Kd.own_blk (Kd.N_away HO535.out (fun _ hk => hk.2.2.2.2)) | (rw [add_block]; exact Kd.own_blk (Kd.N_away HO535.out (fun _ hk => hk.2.2.2.2))) | (show (Addr.add _ _).block ≠ _; rw [add_block]; exact Kd.own_blk (Kd.N_away HO535.out (fun _ hk => hk.2.2.2.2))) | (dsimp only; exact Kd.own_blk (Kd.N_away HO535.out (fun _ hk => hk.2.2.2.2)))) _).trans (hHeld.2.2.2.2.1)))), ((cell_far (p := ⟨gb554, _, none⟩) (by first | exact Kd.own_blk (Kd.N_away HO535.out (fun _ hk => hk.2.2.2.2)) | (rw [add_block]; exact Kd.own_blk (Kd.N_away HO535.out (fun _ hk => hk.2.2.2.2))) | (show (Addr.add _ _).block ≠ _; rw [add_block]; exact Kd.own_blk (Kd.N_away HO535.out (fun _ hk => hk.2.2.2.2))) | (dsimp only; exact Kd.own_blk (Kd.N_away HO535.out (fun _ hk => hk.2.2.2.2)))) _).trans (((cell_far (p := ⟨gb554, _, none⟩) (by first | exact Kd.own_blk (Kd.N_away HO535.out (fun _ hk => hk.2.2.2.2)) | (rw [add_block]; exact Kd.own_blk (Kd.N_away HO535.out (fun _ hk => hk.2.2.2.2))) | (show (Addr.add _ _).block ≠ _; rw [add_block]; exact Kd.own_blk (Kd.N_away HO535.out (fun _ hk => hk.2.2.2.2))) | (dsimp only; exact Kd.own_blk (Kd.N_away HO535.out (fun _ hk => hk.2.2.2.2)))) _).trans (hHeld.2.2.2.2.2.1)))), ((cell_far (p := ⟨gb554, _, none⟩) (by first | exact Kd.own_blk (Kd.N_away HO535.out (fun _ hk => hk.2.2.2.2)) | (rw [add_block]; exact Kd.own_blk (Kd.N_away HO535.out (fun _ hk => hk.2.2.2.2))) | (show (Addr.add _ _).block ≠ _; rw [add_block]; exact Kd.own_blk (Kd.N_away HO535.out (fun _ hk => hk.2.2.2.2))) | (dsimp only; exact Kd.own_blk (Kd.N_away HO535.out (fun _ hk => hk.2.2.2.2)))) _).trans (((cell_far (p := ⟨gb554, _, none⟩) (by first | exact Kd.own_blk (Kd.N_away HO535.out (fun _ hk => hk.2.2.2.2)) | (rw [add_block]; exact Kd.own_blk (Kd.N_away HO535.out (fun _ hk => hk.2.2.2.2))) | (show (Addr.add _ _).block ≠ _; rw [add_block]; exact Kd.own_blk (Kd.N_away HO535.out (fun _ hk => hk.2.2.2.2))) | (dsimp only; exact Kd.own_blk (Kd.N_away HO535.out (fun _ hk => hk.2.2.2.2)))) _).trans (hHeld.2.2.2.2.2.2.1)))), ((cell_far (p := ⟨gb554, _, none⟩) (by first | exact Kd.own_blk (Kd.N_away HO535.out (fun _ hk => hk.2.2.2.2)) | (rw [add_block]; exact Kd.own_blk (Kd.N_away HO535.out (fun _ hk => hk.2.2.2.2))) | (show (Addr.add _ _).block ≠ _; rw [add_block]; exact Kd.own_blk (Kd.N_away HO535.out (fun _ hk => hk.2.2.2.2))) | (dsimp only; exact Kd.own_blk (Kd.N_away HO535.out (fun _ hk => hk.2.2.2.2)))) _).trans (((cell_far (p := ⟨gb554, _, none⟩) (by first | exact Kd.own_blk (Kd.N_away HO535.out (fun _ hk => hk.2.2.2.2)) | (rw [add_block]; exact Kd.own_blk (Kd.N_away HO535.out (fun _ hk => hk.2.2.2.2))) | (show (Addr.add _ _).block ≠ _; rw [add_block]; exact Kd.own_blk (Kd.N_away HO535.out (fun _ hk => hk.2.2.2.2))) | (dsimp only; exact Kd.own_blk (Kd.N_away HO535.out (fun _ hk => hk.2.2.2.2)))) _).trans (hHeld.2.2.2.2.2.2.2.1)))), ((cell_far (p := ⟨gb554, _, none⟩) (by first | exact Kd.own_blk (Kd.N_away HO535.out (fun _ hk => hk.2.2.2.2)) | (rw [add_block]; exact Kd.own_blk (Kd.N_away HO535.out (fun _ hk => hk.2.2.2.2))) | (show (Addr.add _ _).block ≠ _; rw [add_block]; exact Kd.own_blk (Kd.N_away HO535.out (fun _ hk => hk.2.2.2.2))) | (dsimp only; exact Kd.own_blk (Kd.N_away HO535.out (fun _ hk => hk.2.2.2.2)))) _).trans (((cell_far (p := ⟨gb554, _, none⟩) (by first | exact Kd.own_blk (Kd.N_away HO535.out (fun _ hk => hk.2.2.2.2)) | (rw [add_block]; exact Kd.own_blk (Kd.N_away HO535.out (fun _ hk => hk.2.2.2.2))) | (show (Addr.add _ _).block ≠ _; rw [add_block]; exact Kd.own_blk (Kd.N_away HO535.out (fun _ hk => hk.2.2.2.2))) | (dsimp only; exact Kd.own_blk (Kd.N_away HO535.out (fun _ hk => hk.2.2.2.2)))) _).trans (hHeld.2.2.2.2.2.2.2.2.1)))), ((cell_far (p := ⟨gb554, _, none⟩) (by first | exact Kd.own_blk (Kd.N_away HO535.out (fun _ hk => hk.2.2.2.2)) | (rw [add_block]; exact Kd.own_blk (Kd.N_away HO535.out (fun _ hk => hk.2.2.2.2))) | (show (Addr.add _ _).block ≠ _; rw [add_block]; exact Kd.own_blk (Kd.N_away HO535.out (fun _ hk => hk.2.2.2.2))) | (dsimp only; exact Kd.own_blk (Kd.N_away HO535.out (fun _ hk => hk.2.2.2.2)))) _).trans (((cell_far (p := ⟨gb554, _, none⟩) (by first | exact Kd.own_blk (Kd.N_away HO535.out (fun _ hk => hk.2.2.2.2)) | (rw [add_block]; exact Kd.own_blk (Kd.N_away HO535.out (fun _ hk => hk.2.2.2.2))) | (show (Addr.add _ _).block ≠ _; rw [add_block]; exact Kd.own_blk (Kd.N_away HO535.out (fun _ hk => hk.2.2.2.2))) | (dsimp only; exact Kd.own_blk (Kd.N_away HO535.out (fun _ hk => hk.2.2.2.2)))) _).trans (hHeld.2.2.2.2.2.2.2.2.2.1)))), ((cell_far (p := ⟨gb554, _, none⟩) (by first | exact Kd.own_blk (Kd.N_away HO535.out (fun _ hk => hk.2.2.2.2)) | (rw [add_block]; exact Kd.own_blk (Kd.N_away HO535.out (fun _ hk => hk.2.2.2.2))) | (show (Addr.add _ _).block ≠ _; rw [add_block]; exact Kd.own_blk (Kd.N_away HO535.out (fun _ hk => hk.2.2.2.2))) | (dsimp only; exact Kd.own_blk (Kd.N_away HO535.out (fun _ hk => hk.2.2.2.2)))) _).trans (((cell_far (p := ⟨gb554, _, none⟩) (by first | exact Kd.own_blk (Kd.N_away HO535.out (fun _ hk => hk.2.2.2.2)) | (rw [add_block]; exact Kd.own_blk (Kd.N_away HO535.out (fun _ hk => hk.2.2.2.2))) | (show (Addr.add _ _).block ≠ _; rw [add_block]; exact Kd.own_blk (Kd.N_away HO535.out (fun _ hk => hk.2.2.2.2))) | (dsimp only; exact Kd.own_blk (Kd.N_away HO535.out (fun _ hk => hk.2.2.2.2)))) _).trans (hHeld.2.2.2.2.2.2.2.2.2.2.1)))), ((cell_far (p := ⟨gb554, _, none⟩) (by first | exact Kd.own_blk (Kd.N_away HO535.out (fun _ hk => hk.2.2.2.2)) | (rw [add_block]; exact Kd.own_blk (Kd.N_away HO535.out (fun _ hk => hk.2.2.2.2))) | (show (Addr.add _ _).block ≠ _; rw [add_block]; exact Kd.own_blk (Kd.N_away HO535.out (fun _ hk => hk.2.2.2.2))) | (dsimp only; exact Kd.own_blk (Kd.N_away HO535.out (fun _ hk => hk.2.2.2.2)))) _).trans (((cell_far (p := ⟨gb554, _, none⟩) (by first | exact Kd.own_blk (Kd.N_away HO535.out (fun _ hk => hk.2.2.2.2)) | (rw [add_block]; exact Kd.own_blk (Kd.N_away HO535.out (fun _ hk => hk.2.2.2.2))) | (show (Addr.add _ _).block ≠ _; rw [add_block]; exact Kd.own_blk (Kd.N_away HO535.out (fun _ hk => hk.2.2.2.2))) | (dsimp only; exact Kd.own_blk (Kd.N_away HO535.out (fun _ hk => hk.2.2.2.2)))) _).trans (hHeld.2.2.2.2.2.2.2.2.2.2.2))))⟩ (fun hHeld => ?_)
         clear hK K
         refine pU 18 9 #[true, true, true, true, true, true, true, true, true, true, true, true, true, true, true, true, true, true, true] HT_ ?_
         refine done_ (done_of HT_.out (by kernel_rfl)) ?_
         have hnb103 := NB554_536.out
         have hnc103 := NB536_554.out
         have hnb104 := NB554_540.out
         have hnc104 := NB540_554.out
         have hnb105 := NB554_544.out
         have hnc105 := NB544_554.out
         obtain ⟨hcz106_0, hcz106_1, hfz106_0, hfz106_1⟩ := cz2 BK554
         obtain ⟨hcz107_0, hcz107_1, hfz107_0, hfz107_1⟩ := cz2 BK544
         try go_wp2
         go_ret
         exact ⟨by first | rfl | (simp [errW_none, errW_some] <;> rfl) | (simp [*, errW_none, errW_some] <;> rfl), hzs HB⟩
        ·rw [if_neg c75] at H
         exact absurd (Option.some.inj H) (by rw [HRT.out]; decide)
       ·rw [if_neg c73] at H
        exact absurd H (by simp)
      ·rw [if_neg c72] at H
       exact absurd H (by simp)
     ·replace c71 := Bool.eq_false_iff.mpr c71
      subst c71
      rw [if_neg (show ¬ (false = true) by decide)] at H
      by_cases c135 : (t543 == t539) = true
      ·rw [if_pos c135] at H
       have c135b0 : (t543 == t539) = true := c135
       (try (have c135b1 : decide (t543 = t539) = true := by simpa using c135))
       (try (have c135b2 : (t543 == t539) = true := by simpa using c135))
       clear c135
       obtain rfl := Option.some.inj H
       go_enter Try.func13, Try.ntmps13
       go_wp2_with (first | ((with_reducible refine gate_callee (f := 33) rfl ?_); refine gL 14 Try.func33 #[.slice A0 l0.length c0] ?_; (with_reducible refine (spec_DrawExprSpan.calls k _ _ l0 t530 t531 t532 t533 _ ?side1 ?side2 A3.out).mono ?_); (case side1 => repeat (first | exact HR0.out | (with_reducible refine Kd.C_alloc ?_ _) | (with_reducible refine Kd.C_drewN ?_ _) | (with_reducible refine Kd.C_drew ?_))); (case side2 => exact HC0.out); rintro e w136 ⟨v534, rfl, ho0, hb⟩; refine ⟨_, rfl, ?_⟩; have HO535 := Aside0.mk (Kd.N_lower (Kd.N_mono (ok' := fun k_ => True) ho0 (fun k_ hk_ => trivial)) (below_size (hz0 HB))); replace HB := hbb (hz0 HB) hb; (try clear hb); (try clear hb2); (try clear hk); (try clear hi); (try clear ho0)) | ((with_reducible refine gate_dst (N := 3) rfl ?_); refine bE 3 #[.int .i64 0, .int .i64 0, .int .i64 0, .slice none 0 0] 25 ?_; intro gb536 hg w137 hbox hb; have BK536 := Aside0.mk (hbox); have GE536 := gw hg (hz0 HB); have GW536 := GE536; replace HO535 := Aside0.mk (Kd.N_below (Kd.N_elderB (by (with_reducible repeat (first | apply Kd.N_alloc | apply Kd.N_drewN | apply Kd.N_drew)); exact HO535.out) gb536 (Nat.le_of_eq hg.symm)) hb); replace HB := hbb (hz0 HB) hb; clear hb hbox hg; obtain ⟨hcz138_0, hcz138_1, hcz138_2, hcz138_3, hfz138_0, hfz138_1, hfz138_2, hfz138_3⟩ := cz4 BK536; obtain ⟨Ao139, co139, eo139⟩ := Kd.N_slice HO535.out; subst eo139) | ((with_reducible refine gate_callee (f := 31) rfl ?_); refine gL 17 Try.func31 #[.agg #[.int .i64 t530, .int .i64 t531, .int .i64 t532, .slice Ao139 t533.length co139]] ?_; (with_reducible refine (spec_ExprSpan.calls k t530 t531 t532 _ _ t533 t537 t538 t539 _ ?side1 ?side2 A4.out).mono ?_); (case side1 => refine (Kd.N_reads' (e := 25) (base := w.heap.size) (ok := fun k_ => (True ∧ k_ ≠ gb536)) (n := t533.length) (c := co139) ?_).2.2; exact (by (with_reducible repeat (first | apply Kd.N_alloc | apply Kd.N_drewN | apply Kd.N_drew)); exact (Kd.N_mono (Kd.N_far (p := ⟨gb536, 3, none⟩) (Kd.N_far (p := ⟨gb536, 2, none⟩) (Kd.N_far (p := ⟨gb536, 1, none⟩) (Kd.N_far (p := ⟨gb536, 0, none⟩) (Kd.N_mono HO535.out (fun k_ hk => (⟨hk, hk.2⟩ : _ ∧ k_ ≠ gb536))) (fun _ hk => hk.2) (.int .i64 t530)) (fun _ hk => hk.2) (.int .i64 t531)) (fun _ hk => hk.2) (.int .i64 t532)) (fun _ hk => hk.2) (.slice Ao139 t533.length co139)) (fun _ h_ => h_.1)))); (case side2 => exact (Kd.N_reads' HO535.out).2.1); rintro e w140 ⟨rfl, hb⟩; refine ⟨_, rfl, ?_⟩; replace HO535 := Aside0.mk (Kd.N_below (by (with_reducible repeat (first | apply Kd.N_alloc | apply Kd.N_drewN | apply Kd.N_drew)); exact (Kd.N_mono (Kd.N_far (p := ⟨gb536, 3, none⟩) (Kd.N_far (p := ⟨gb536, 2, none⟩) (Kd.N_far (p := ⟨gb536, 1, none⟩) (Kd.N_far (p := ⟨gb536, 0, none⟩) (Kd.N_mono HO535.out (fun k_ hk => (⟨hk, hk.2⟩ : _ ∧ k_ ≠ gb536))) (fun _ hk => hk.2) (.int .i64 t530)) (fun _ hk => hk.2) (.int .i64 t531)) (fun _ hk => hk.2) (.int .i64 t532)) (fun _ hk => hk.2) (.slice Ao139 t533.length co139)) (fun _ h_ => h_.1))) hb); replace BK536 := Aside0.mk (blk_below (g := gb536) (o := .cells #[.int .i64 t530, .int .i64 t531, .int .i64 t532, .slice Ao139 t533.length co139] 25 (0, 0)) (by (with_reducible repeat (first | refine blk_drewN ?_ _ | refine blk_drew ?_ | refine blk_alloc ?_ _)); refine blk_put (cs := #[.int .i64 t530, .int .i64 t531, .int .i64 t532, .slice none 0 0]) ?_ 3 _ rfl; (with_reducible repeat (first | refine blk_drewN ?_ _ | refine blk_drew ?_ | refine blk_alloc ?_ _)); refine blk_put (cs := #[.int .i64 t530, .int .i64 t531, .int .i64 0, .slice none 0 0]) ?_ 2 _ rfl; (with_reducible repeat (first | refine blk_drewN ?_ _ | refine blk_drew ?_ | refine blk_alloc ?_ _)); refine blk_put (cs := #[.int .i64 t530, .int .i64 0, .int .i64 0, .slice none 0 0]) ?_ 1 _ rfl; (with_reducible repeat (first | refine blk_drewN ?_ _ | refine blk_drew ?_ | refine blk_alloc ?_ _)); refine blk_put (cs := #[.int .i64 0, .int .i64 0, .int .i64 0, .slice none 0 0]) ?_ 0 _ rfl; (with_reducible repeat (first | refine blk_drewN ?_ _ | refine blk_drew ?_ | refine blk_alloc ?_ _)); exact BK536.out) hb); replace HB := hbb (hzs HB) hb; clear hb) | ((with_reducible refine gate_dst (N := 4) rfl ?_); refine bE 4 #[.int .i64 0, .int .i64 0] 31 ?_; intro gb540 hg w141 hbox hb; have BK540 := Aside0.mk (hbox); have GE540 := gw hg (hzs HB); have GW540 := GE540; have NB536_540 := nl hg (bk BK536); have NB540_536 := ng hg (bk BK536); replace HO535 := Aside0.mk (Kd.N_below (Kd.N_elderB (by (with_reducible repeat (first | apply Kd.N_alloc | apply Kd.N_drewN | apply Kd.N_drew)); exact HO535.out) gb540 (Nat.le_of_eq hg.symm)) hb); replace BK536 := bb (bk BK536) hb; replace HB := hbb (hzs HB) hb; clear hb hbox hg; have hnb142 := NB540_536.out; have hnc142 := NB536_540.out; obtain ⟨hcz143_0, hcz143_1, hfz143_0, hfz143_1⟩ := cz2 BK540; obtain ⟨hcz144_0, hcz144_1, hcz144_2, hcz144_3, hfz144_0, hfz144_1, hfz144_2, hfz144_3⟩ := cz4 BK536) | ((with_reducible refine gate_callee (f := 18) rfl ?_); refine gL 22 Try.func18 #[.agg #[.int .i64 t530, .int .i64 t531, .int .i64 t532, .slice Ao139 t533.length co139]] ?_; (with_reducible refine (impl_ExprSpan.calls k t530 t531 t532 _ _ t533 t541 t542 t543 _ ?side1 ?side2 A5.out).mono ?_); (case side1 => refine (Kd.N_reads' (e := 25) (base := w.heap.size) (ok := fun k_ => ((True ∧ k_ ≠ gb536) ∧ k_ ≠ gb540)) (n := t533.length) (c := co139) ?_).2.2; exact (by (with_reducible repeat (first | apply Kd.N_alloc | apply Kd.N_drewN | apply Kd.N_drew)); exact (Kd.N_mono (Kd.N_far (p := ⟨gb540, 1, none⟩) (Kd.N_far (p := ⟨gb540, 0, none⟩) (Kd.N_mono HO535.out (fun k_ hk => (⟨hk, hk.2⟩ : _ ∧ k_ ≠ gb540))) (fun _ hk => hk.2) (.int .i64 t537)) (fun _ hk => hk.2) (.int .i64 t538)) (fun _ h_ => h_.1)))); (case side2 => exact (Kd.N_reads' HO535.out).2.1); rintro e w145 ⟨rfl, hb⟩; refine ⟨_, rfl, ?_⟩; replace HO535 := Aside0.mk (Kd.N_below (by (with_reducible repeat (first | apply Kd.N_alloc | apply Kd.N_drewN | apply Kd.N_drew)); exact (Kd.N_mono (Kd.N_far (p := ⟨gb540, 1, none⟩) (Kd.N_far (p := ⟨gb540, 0, none⟩) (Kd.N_mono HO535.out (fun k_ hk => (⟨hk, hk.2⟩ : _ ∧ k_ ≠ gb540))) (fun _ hk => hk.2) (.int .i64 t537)) (fun _ hk => hk.2) (.int .i64 t538)) (fun _ h_ => h_.1))) hb); replace BK536 := bb (bk1 BK536 NB536_540) hb; replace BK540 := bb (o := .cells #[.int .i64 t537, .int .i64 t538] 31 (0, 0)) (bkp BK540) hb; replace HB := hbb (hzs HB) hb; clear hb) | ((with_reducible refine gate_dst (N := 6) rfl ?_); refine bE 6 #[.int .i64 0, .int .i64 0] 31 ?_; intro gb544 hg w146 hbox hb; have BK544 := Aside0.mk (hbox); have GE544 := gw hg (hzs HB); have GW544 := GE544; have NB536_544 := nl hg (bk BK536); have NB544_536 := ng hg (bk BK536); have NB540_544 := nl hg (bk BK540); have NB544_540 := ng hg (bk BK540); replace HO535 := Aside0.mk (Kd.N_below (Kd.N_elderB (by (with_reducible repeat (first | apply Kd.N_alloc | apply Kd.N_drewN | apply Kd.N_drew)); exact HO535.out) gb544 (Nat.le_of_eq hg.symm)) hb); replace BK536 := bb (bk BK536) hb; replace BK540 := bb (bk BK540) hb; replace HB := hbb (hzs HB) hb; clear hb hbox hg; have hnb147 := NB544_536.out; have hnc147 := NB536_544.out; have hnb148 := NB544_540.out; have hnc148 := NB540_544.out; obtain ⟨hcz149_0, hcz149_1, hfz149_0, hfz149_1⟩ := cz2 BK544; obtain ⟨hcz150_0, hcz150_1, hfz150_0, hfz150_1⟩ := cz2 BK540; obtain ⟨hcz151_0, hcz151_1, hcz151_2, hcz151_3, hfz151_0, hfz151_1, hfz151_2, hfz151_3⟩ := cz4 BK536) | (go_at_call 21; (with_reducible refine (spec_ExprOk.calls k t530 t531 t532 _ _ t533 false _ ?side1 ?side2 A70.out).mono ?_); (case side1 => refine (Kd.N_reads' (e := 25) (base := w.heap.size) (ok := fun k_ => (((True ∧ k_ ≠ gb536) ∧ k_ ≠ gb540) ∧ k_ ≠ gb544)) (n := t533.length) (c := co139) ?_).2.2; exact (by (with_reducible repeat (first | apply Kd.N_alloc | apply Kd.N_drewN | apply Kd.N_drew)); exact (Kd.N_mono (Kd.N_far (p := ⟨gb544, 1, none⟩) (Kd.N_far (p := ⟨gb544, 0, none⟩) (Kd.N_mono HO535.out (fun k_ hk => (⟨hk, hk.2⟩ : _ ∧ k_ ≠ gb544))) (fun _ hk => hk.2) (.int .i64 t541)) (fun _ hk => hk.2) (.int .i64 t542)) (fun _ h_ => h_.1)))); (case side2 => exact (Kd.N_reads' HO535.out).2.1); rintro e w152 ⟨rfl, hb⟩; replace HO535 := Aside0.mk (Kd.N_below (by (with_reducible repeat (first | apply Kd.N_alloc | apply Kd.N_drewN | apply Kd.N_drew)); exact (Kd.N_mono (Kd.N_far (p := ⟨gb544, 1, none⟩) (Kd.N_far (p := ⟨gb544, 0, none⟩) (Kd.N_mono HO535.out (fun k_ hk => (⟨hk, hk.2⟩ : _ ∧ k_ ≠ gb544))) (fun _ hk => hk.2) (.int .i64 t541)) (fun _ hk => hk.2) (.int .i64 t542)) (fun _ h_ => h_.1))) hb); replace BK536 := bb (bk1 BK536 NB536_544) hb; replace BK540 := bb (bk1 BK540 NB540_544) hb; replace BK544 := bb (o := .cells #[.int .i64 t541, .int .i64 t542] 31 (0, 0)) (bkp BK544) hb; replace HB := hbb (hzs HB) hb; clear hb; obtain ⟨hcz153_0, hcz153_1, hfz153_0, hfz153_1⟩ := cz2 BK544; obtain ⟨hcz154_0, hcz154_1, hfz154_0, hfz154_1⟩ := cz2 BK540))
       go_ret
       exact ⟨by first | rfl | (simp [errW_none, errW_some] <;> rfl) | (simp [*, errW_none, errW_some] <;> rfl), hzs HB⟩
      ·rw [if_neg c135] at H
       exact absurd (Option.some.inj H) (by rw [HRT.out]; decide)
    ·rw [if_neg c69] at H
     have c69b0 : (t530 == 5) = false := beq_eq_false_iff_ne.mpr c69
     have c69b1 : (t530 != 5) = true := bne_iff_ne.mpr c69
     by_cases c172 : t530 = 7
     ·rw [if_pos c172] at H
      have c172b0 : (t530 == 7) = true := beq_iff_eq.mpr c172
      have c172b1 : (t530 != 7) = false := bne_eq_false_iff_eq.mpr c172
      clear c172
      replace H := Option.bind_eq_some_iff.mp H
      obtain ⟨t555, A1730, H⟩ := H
      try dsimp only at H
      have A173 := Aside0.mk A1730
      clear A1730
      by_cases c174 : t555 = true
      ·subst c174
       rw [if_pos rfl] at H
       by_cases c175 : 1 < (t533.length : Int)
       ·rw [if_pos c175] at H
        have c175b0 : decide (1 < (t533.length : Int)) = true := decide_eq_true c175
        have c175b1 : decide (1 < t533.length) = true := decide_eq_true (by omega)
        clear c175
        by_cases c176 : 0 < (t533.length : Int)
        ·rw [if_pos c176] at H
         have c176b0 : decide (0 < (t533.length : Int)) = true := decide_eq_true c176
         have c176b1 : decide (0 < t533.length) = true := decide_eq_true (by omega)
         clear c176
         obtain ⟨y558, hy558⟩ : ∃ y_ : List (S25), y_ = (([(⟨(rd_T25 t533 1).f0, (rd_T25 t533 1).f1, (rd_T25 t533 1).f2, (rd_T25 t533 1).f3⟩ : S25), (⟨(rd_T25 t533 0).f0, (rd_T25 t533 0).f1, (rd_T25 t533 0).f2, (rd_T25 t533 0).f3⟩ : S25)] : List (S25))) := ⟨_, rfl⟩
         replace H : ((impl_ExprSpan.f k t530 0 0 y558).bind fun bt561 => (if (bt561.2.2 == t543) = true then (some (bt561.1 == t541 && (bt561.2.1 == t542))) else (some false))) = some r := by first | (rw [hy558]; with_reducible exact H) | (have H2_ := (Option.bind_some _ _).symm.trans H; rw [hy558]; with_reducible exact H2_) | (have H2_ := (Option.bind_some _ _).symm.trans H; with_reducible exact H2_) | with_reducible exact H | (rw [hy558]; exact H) | exact H
         have Ny558 := Aside0.mk hy558
         clear hy558
         replace H := Option.bind_eq_some_iff.mp H
         obtain ⟨⟨t561, t562, t563⟩, A1770, H⟩ := H
         try dsimp only at H
         have A177 := Aside0.mk A1770
         clear A1770
         by_cases c178 : (t563 == t543) = true
         ·rw [if_pos c178] at H
          have c178b0 : (t563 == t543) = true := c178
          (try (have c178b1 : decide (t563 = t543) = true := by simpa using c178))
          (try (have c178b2 : (t563 == t543) = true := by simpa using c178))
          clear c178
          obtain rfl := Option.some.inj H
          go_enter Try.func13, Try.ntmps13
          try go_wp2_with (first | ((with_reducible refine gate_callee (f := 33) rfl ?_); refine gL 14 Try.func33 #[.slice A0 l0.length c0] ?_; (with_reducible refine (spec_DrawExprSpan.calls k _ _ l0 t530 t531 t532 t533 _ ?side1 ?side2 A3.out).mono ?_); (case side1 => repeat (first | exact HR0.out | (with_reducible refine Kd.C_alloc ?_ _) | (with_reducible refine Kd.C_drewN ?_ _) | (with_reducible refine Kd.C_drew ?_))); (case side2 => exact HC0.out); rintro e w179 ⟨v534, rfl, ho0, hb⟩; refine ⟨_, rfl, ?_⟩; have HO535 := Aside0.mk (Kd.N_lower (Kd.N_mono (ok' := fun k_ => True) ho0 (fun k_ hk_ => trivial)) (below_size (hz0 HB))); replace HB := hbb (hz0 HB) hb; (try clear hb); (try clear hb2); (try clear hk); (try clear hi); (try clear ho0)) | ((with_reducible refine gate_dst (N := 3) rfl ?_); refine bE 3 #[.int .i64 0, .int .i64 0, .int .i64 0, .slice none 0 0] 25 ?_; intro gb536 hg w180 hbox hb; have BK536 := Aside0.mk (hbox); have GE536 := gw hg (hz0 HB); have GW536 := GE536; replace HO535 := Aside0.mk (Kd.N_below (Kd.N_elderB (by (with_reducible repeat (first | apply Kd.N_alloc | apply Kd.N_drewN | apply Kd.N_drew)); exact HO535.out) gb536 (Nat.le_of_eq hg.symm)) hb); replace HB := hbb (hz0 HB) hb; clear hb hbox hg; obtain ⟨hcz181_0, hcz181_1, hcz181_2, hcz181_3, hfz181_0, hfz181_1, hfz181_2, hfz181_3⟩ := cz4 BK536; obtain ⟨Ao182, co182, eo182⟩ := Kd.N_slice HO535.out; subst eo182) | ((with_reducible refine gate_callee (f := 31) rfl ?_); refine gL 17 Try.func31 #[.agg #[.int .i64 t530, .int .i64 t531, .int .i64 t532, .slice Ao182 t533.length co182]] ?_; (with_reducible refine (spec_ExprSpan.calls k t530 t531 t532 _ _ t533 t537 t538 t539 _ ?side1 ?side2 A4.out).mono ?_); (case side1 => refine (Kd.N_reads' (e := 25) (base := w.heap.size) (ok := fun k_ => (True ∧ k_ ≠ gb536)) (n := t533.length) (c := co182) ?_).2.2; exact (by (with_reducible repeat (first | apply Kd.N_alloc | apply Kd.N_drewN | apply Kd.N_drew)); exact (Kd.N_mono (Kd.N_far (p := ⟨gb536, 3, none⟩) (Kd.N_far (p := ⟨gb536, 2, none⟩) (Kd.N_far (p := ⟨gb536, 1, none⟩) (Kd.N_far (p := ⟨gb536, 0, none⟩) (Kd.N_mono HO535.out (fun k_ hk => (⟨hk, hk.2⟩ : _ ∧ k_ ≠ gb536))) (fun _ hk => hk.2) (.int .i64 t530)) (fun _ hk => hk.2) (.int .i64 t531)) (fun _ hk => hk.2) (.int .i64 t532)) (fun _ hk => hk.2) (.slice Ao182 t533.length co182)) (fun _ h_ => h_.1)))); (case side2 => exact (Kd.N_reads' HO535.out).2.1); rintro e w183 ⟨rfl, hb⟩; refine ⟨_, rfl, ?_⟩; replace HO535 := Aside0.mk (Kd.N_below (by (with_reducible repeat (first | apply Kd.N_alloc | apply Kd.N_drewN | apply Kd.N_drew)); exact (Kd.N_mono (Kd.N_far (p := ⟨gb536, 3, none⟩) (Kd.N_far (p := ⟨gb536, 2, none⟩) (Kd.N_far (p := ⟨gb536, 1, none⟩) (Kd.N_far (p := ⟨gb536, 0, none⟩) (Kd.N_mono HO535.out (fun k_ hk => (⟨hk, hk.2⟩ : _ ∧ k_ ≠ gb536))) (fun _ hk => hk.2) (.int .i64 t530)) (fun _ hk => hk.2) (.int .i64 t531)) (fun _ hk => hk.2) (.int .i64 t532)) (fun _ hk => hk.2) (.slice Ao182 t533.length co182)) (fun _ h_ => h_.1))) hb); replace BK536 := Aside0.mk (blk_below (g := gb536) (o := .cells #[.int .i64 t530, .int .i64 t531, .int .i64 t532, .slice Ao182 t533.length co182] 25 (0, 0)) (by (with_reducible repeat (first | refine blk_drewN ?_ _ | refine blk_drew ?_ | refine blk_alloc ?_ _)); refine blk_put (cs := #[.int .i64 t530, .int .i64 t531, .int .i64 t532, .slice none 0 0]) ?_ 3 _ rfl; (with_reducible repeat (first | refine blk_drewN ?_ _ | refine blk_drew ?_ | refine blk_alloc ?_ _)); refine blk_put (cs := #[.int .i64 t530, .int .i64 t531, .int .i64 0, .slice none 0 0]) ?_ 2 _ rfl; (with_reducible repeat (first | refine blk_drewN ?_ _ | refine blk_drew ?_ | refine blk_alloc ?_ _)); refine blk_put (cs := #[.int .i64 t530, .int .i64 0, .int .i64 0, .slice none 0 0]) ?_ 1 _ rfl; (with_reducible repeat (first | refine blk_drewN ?_ _ | refine blk_drew ?_ | refine blk_alloc ?_ _)); refine blk_put (cs := #[.int .i64 0, .int .i64 0, .int .i64 0, .slice none 0 0]) ?_ 0 _ rfl; (with_reducible repeat (first | refine blk_drewN ?_ _ | refine blk_drew ?_ | refine blk_alloc ?_ _)); exact BK536.out) hb); replace HB := hbb (hzs HB) hb; clear hb) | ((with_reducible refine gate_dst (N := 4) rfl ?_); refine bE 4 #[.int .i64 0, .int .i64 0] 31 ?_; intro gb540 hg w184 hbox hb; have BK540 := Aside0.mk (hbox); have GE540 := gw hg (hzs HB); have GW540 := GE540; have NB536_540 := nl hg (bk BK536); have NB540_536 := ng hg (bk BK536); replace HO535 := Aside0.mk (Kd.N_below (Kd.N_elderB (by (with_reducible repeat (first | apply Kd.N_alloc | apply Kd.N_drewN | apply Kd.N_drew)); exact HO535.out) gb540 (Nat.le_of_eq hg.symm)) hb); replace BK536 := bb (bk BK536) hb; replace HB := hbb (hzs HB) hb; clear hb hbox hg; have hnb185 := NB540_536.out; have hnc185 := NB536_540.out; obtain ⟨hcz186_0, hcz186_1, hfz186_0, hfz186_1⟩ := cz2 BK540; obtain ⟨hcz187_0, hcz187_1, hcz187_2, hcz187_3, hfz187_0, hfz187_1, hfz187_2, hfz187_3⟩ := cz4 BK536) | ((with_reducible refine gate_callee (f := 18) rfl ?_); refine gL 22 Try.func18 #[.agg #[.int .i64 t530, .int .i64 t531, .int .i64 t532, .slice Ao182 t533.length co182]] ?_; (with_reducible refine (impl_ExprSpan.calls k t530 t531 t532 _ _ t533 t541 t542 t543 _ ?side1 ?side2 A5.out).mono ?_); (case side1 => refine (Kd.N_reads' (e := 25) (base := w.heap.size) (ok := fun k_ => ((True ∧ k_ ≠ gb536) ∧ k_ ≠ gb540)) (n := t533.length) (c := co182) ?_).2.2; exact (by (with_reducible repeat (first | apply Kd.N_alloc | apply Kd.N_drewN | apply Kd.N_drew)); exact (Kd.N_mono (Kd.N_far (p := ⟨gb540, 1, none⟩) (Kd.N_far (p := ⟨gb540, 0, none⟩) (Kd.N_mono HO535.out (fun k_ hk => (⟨hk, hk.2⟩ : _ ∧ k_ ≠ gb540))) (fun _ hk => hk.2) (.int .i64 t537)) (fun _ hk => hk.2) (.int .i64 t538)) (fun _ h_ => h_.1)))); (case side2 => exact (Kd.N_reads' HO535.out).2.1); rintro e w188 ⟨rfl, hb⟩; refine ⟨_, rfl, ?_⟩; replace HO535 := Aside0.mk (Kd.N_below (by (with_reducible repeat (first | apply Kd.N_alloc | apply Kd.N_drewN | apply Kd.N_drew)); exact (Kd.N_mono (Kd.N_far (p := ⟨gb540, 1, none⟩) (Kd.N_far (p := ⟨gb540, 0, none⟩) (Kd.N_mono HO535.out (fun k_ hk => (⟨hk, hk.2⟩ : _ ∧ k_ ≠ gb540))) (fun _ hk => hk.2) (.int .i64 t537)) (fun _ hk => hk.2) (.int .i64 t538)) (fun _ h_ => h_.1))) hb); replace BK536 := bb (bk1 BK536 NB536_540) hb; replace BK540 := bb (o := .cells #[.int .i64 t537, .int .i64 t538] 31 (0, 0)) (bkp BK540) hb; replace HB := hbb (hzs HB) hb; clear hb) | ((with_reducible refine gate_dst (N := 6) rfl ?_); refine bE 6 #[.int .i64 0, .int .i64 0] 31 ?_; intro gb544 hg w189 hbox hb; have BK544 := Aside0.mk (hbox); have GE544 := gw hg (hzs HB); have GW544 := GE544; have NB536_544 := nl hg (bk BK536); have NB544_536 := ng hg (bk BK536); have NB540_544 := nl hg (bk BK540); have NB544_540 := ng hg (bk BK540); replace HO535 := Aside0.mk (Kd.N_below (Kd.N_elderB (by (with_reducible repeat (first | apply Kd.N_alloc | apply Kd.N_drewN | apply Kd.N_drew)); exact HO535.out) gb544 (Nat.le_of_eq hg.symm)) hb); replace BK536 := bb (bk BK536) hb; replace BK540 := bb (bk BK540) hb; replace HB := hbb (hzs HB) hb; clear hb hbox hg; have hnb190 := NB544_536.out; have hnc190 := NB536_544.out; have hnb191 := NB544_540.out; have hnc191 := NB540_544.out; obtain ⟨hcz192_0, hcz192_1, hfz192_0, hfz192_1⟩ := cz2 BK544; obtain ⟨hcz193_0, hcz193_1, hfz193_0, hfz193_1⟩ := cz2 BK540; obtain ⟨hcz194_0, hcz194_1, hcz194_2, hcz194_3, hfz194_0, hfz194_1, hfz194_2, hfz194_3⟩ := cz4 BK536) | (go_at_call 21; (with_reducible refine (spec_ExprOk.calls k t530 t531 t532 _ _ t533 true _ ?side1 ?side2 A173.out).mono ?_); (case side1 => refine (Kd.N_reads' (e := 25) (base := w.heap.size) (ok := fun k_ => (((True ∧ k_ ≠ gb536) ∧ k_ ≠ gb540) ∧ k_ ≠ gb544)) (n := t533.length) (c := co182) ?_).2.2; exact (by (with_reducible repeat (first | apply Kd.N_alloc | apply Kd.N_drewN | apply Kd.N_drew)); exact (Kd.N_mono (Kd.N_far (p := ⟨gb544, 1, none⟩) (Kd.N_far (p := ⟨gb544, 0, none⟩) (Kd.N_mono HO535.out (fun k_ hk => (⟨hk, hk.2⟩ : _ ∧ k_ ≠ gb544))) (fun _ hk => hk.2) (.int .i64 t541)) (fun _ hk => hk.2) (.int .i64 t542)) (fun _ h_ => h_.1)))); (case side2 => exact (Kd.N_reads' HO535.out).2.1); rintro e w195 ⟨rfl, hb⟩; replace HO535 := Aside0.mk (Kd.N_below (by (with_reducible repeat (first | apply Kd.N_alloc | apply Kd.N_drewN | apply Kd.N_drew)); exact (Kd.N_mono (Kd.N_far (p := ⟨gb544, 1, none⟩) (Kd.N_far (p := ⟨gb544, 0, none⟩) (Kd.N_mono HO535.out (fun k_ hk => (⟨hk, hk.2⟩ : _ ∧ k_ ≠ gb544))) (fun _ hk => hk.2) (.int .i64 t541)) (fun _ hk => hk.2) (.int .i64 t542)) (fun _ h_ => h_.1))) hb); replace BK536 := bb (bk1 BK536 NB536_544) hb; replace BK540 := bb (bk1 BK540 NB540_544) hb; replace BK544 := bb (o := .cells #[.int .i64 t541, .int .i64 t542] 31 (0, 0)) (bkp BK544) hb; replace HB := hbb (hzs HB) hb; clear hb))
          replace HO535 := Aside0.mk (Kd.N_drew HO535.out)
          replace BK536 := Aside0.mk (blk_drew BK536.out)
          replace BK540 := Aside0.mk (blk_drew BK540.out)
          replace BK544 := Aside0.mk (blk_drew BK544.out)
          replace HB := Aside0.mk (below_drew1 HB.out)
          have p556 : 0 ≤ (1 : Int) := (by omega)
          have q556 : 1 < (t533.length : Int) := of_decide_eq_true (by first | (with_reducible assumption) | assumption)
          obtain ⟨ad556, A556_3, c556_3, e556, hx556_0, hx556_1, hx556_2, hx556_3, hl556_3, hi556_3⟩ := at_T25 (Kd.N_reads' HO535.out).2.2 1 p556 q556
          cases e556
          obtain ⟨ce556, hce556, hMe556, hcc556⟩ := Kd.N_get HO535.out z25 1 p556 (by first | exact q556 | exact of_decide_eq_true (by first | (with_reducible assumption) | assumption) | (have e_ := (Kd.N_reads' HO535.out).1; omega))
          obtain ⟨ua556_3, uc556_3, rfl, ul556_3, ge556_3⟩ := k25_openF hMe556
          have hv556_3 := hcc556 3 _ rfl
          rw [add_field _ _ 3 (by omega)] at hv556_3
          replace hv556_3 := Option.some.inj (hv556_3.symm.trans hx556_3)
          injection hv556_3 with hva_ hvn_ hvc_
          rw [hva_] at ge556_3
          rw [hvc_] at ul556_3
          have HL556_3 := Aside0.mk (show Kd.V k25 25 _ w.heap.size _ _ ((rd_T25 t533 1).f3) from Kd.V_mk ul556_3 ge556_3)
          clear hva_ hvn_ hvc_ ge556_3 ul556_3
          clear hcc556 hce556
          (try simp only [show (1 : Int).toNat = 1 from rfl, Nat.reduceMul, Nat.reduceEqDiff, Go.Addr.add, ↓reduceIte] at hx556_0)
          (try simp only [show (1 : Int).toNat = 1 from rfl, Nat.reduceMul, Nat.reduceEqDiff, Go.Addr.add, ↓reduceIte] at hx556_1)
          (try simp only [show (1 : Int).toNat = 1 from rfl, Nat.reduceMul, Nat.reduceEqDiff, Go.Addr.add, ↓reduceIte] at hx556_2)
          (try simp only [show (1 : Int).toNat = 1 from rfl, Nat.reduceMul, Nat.reduceEqDiff, Go.Addr.add, ↓reduceIte] at hx556_3)
          have qi556 : (1 < t533.length) = True := eq_true (by omega)
          (try rw [show ((1 : Int)).toNat = 1 from rfl] at hx556_0)
          (try rw [show 1 * 4 = 4 from rfl] at hx556_0)
          (try rw [show ((1 : Int)).toNat = 1 from rfl] at hx556_1)
          (try rw [show 1 * 4 = 4 from rfl] at hx556_1)
          (try rw [show ((1 : Int)).toNat = 1 from rfl] at hx556_2)
          (try rw [show 1 * 4 = 4 from rfl] at hx556_2)
          (try rw [show ((1 : Int)).toNat = 1 from rfl] at hx556_3)
          (try rw [show 1 * 4 = 4 from rfl] at hx556_3)
          have HR556_3 := Aside0.mk hi556_3
          have HC556_3 := Aside0.mk hl556_3
          clear hi556_3 hl556_3
          replace p556 := eq_true p556
          replace q556 := eq_true q556
          have p557 : 0 ≤ (0 : Int) := (by omega)
          have q557 : 0 < (t533.length : Int) := of_decide_eq_true (by first | (with_reducible assumption) | assumption)
          obtain ⟨ad557, A557_3, c557_3, e557, hx557_0, hx557_1, hx557_2, hx557_3, hl557_3, hi557_3⟩ := at_T25 (Kd.N_reads' HO535.out).2.2 0 p557 q557
          obtain rfl : ad556 = ad557 := (by injection e557)
          obtain ⟨ce557, hce557, hMe557, hcc557⟩ := Kd.N_get HO535.out z25 0 p557 (by first | exact q557 | exact of_decide_eq_true (by first | (with_reducible assumption) | assumption) | (have e_ := (Kd.N_reads' HO535.out).1; omega))
          obtain ⟨ua557_3, uc557_3, rfl, ul557_3, ge557_3⟩ := k25_openF hMe557
          have hv557_3 := hcc557 3 _ rfl
          rw [add_field _ _ 3 (by omega)] at hv557_3
          replace hv557_3 := Option.some.inj (hv557_3.symm.trans hx557_3)
          injection hv557_3 with hva_ hvn_ hvc_
          rw [hva_] at ge557_3
          rw [hvc_] at ul557_3
          have HL557_3 := Aside0.mk (show Kd.V k25 25 _ w.heap.size _ _ ((rd_T25 t533 0).f3) from Kd.V_mk ul557_3 ge557_3)
          clear hva_ hvn_ hvc_ ge557_3 ul557_3
          clear hcc557 hce557
          have qi557 : (0 < t533.length) = True := eq_true (by omega)
          (try rw [show ((0 : Int)).toNat = 0 from rfl] at hx557_0)
          (try rw [show 0 * 4 = 0 from rfl] at hx557_0)
          (try rw [Addr.add_zero'] at hx557_0)
          (try rw [show ((0 : Int)).toNat = 0 from rfl] at hx557_1)
          (try rw [show 0 * 4 = 0 from rfl] at hx557_1)
          (try rw [Addr.add_zero'] at hx557_1)
          (try rw [show ((0 : Int)).toNat = 0 from rfl] at hx557_2)
          (try rw [show 0 * 4 = 0 from rfl] at hx557_2)
          (try rw [Addr.add_zero'] at hx557_2)
          (try rw [show ((0 : Int)).toNat = 0 from rfl] at hx557_3)
          (try rw [show 0 * 4 = 0 from rfl] at hx557_3)
          (try rw [Addr.add_zero'] at hx557_3)
          have HR557_3 := Aside0.mk hi557_3
          have HC557_3 := Aside0.mk hl557_3
          clear hi557_3 hl557_3
          replace p557 := eq_true p557
          replace q557 := eq_true q557
          refine start_ (n := 19) (S := fun w' => w'.cell? ⟨gb536, 0, none⟩ = some (.int .i64 t530) ∧ w'.cell? ⟨gb536, 1, none⟩ = some (.int .i64 t531) ∧ w'.cell? ⟨gb536, 2, none⟩ = some (.int .i64 t532) ∧ w'.cell? ⟨gb536, 3, none⟩ = some (.slice (some ad556) t533.length co182) ∧ w'.cell? ⟨ad556.block, ad556.off + 4, none⟩ = some (.int .i64 ((rd_T25 t533 1).f0)) ∧ w'.cell? ⟨ad556.block, ad556.off + 4 + 1, none⟩ = some (.int .i64 ((rd_T25 t533 1).f1)) ∧ w'.cell? ⟨ad556.block, ad556.off + 4 + 2, none⟩ = some (.int .i64 ((rd_T25 t533 1).f2)) ∧ w'.cell? ⟨ad556.block, ad556.off + 4 + 3, none⟩ = some (.slice A556_3 ((rd_T25 t533 1).f3).length c556_3) ∧ w'.cell? ad556 = some (.int .i64 ((rd_T25 t533 0).f0)) ∧ w'.cell? ⟨ad556.block, ad556.off + 1, none⟩ = some (.int .i64 ((rd_T25 t533 0).f1)) ∧ w'.cell? ⟨ad556.block, ad556.off + 2, none⟩ = some (.int .i64 ((rd_T25 t533 0).f2)) ∧ w'.cell? ⟨ad556.block, ad556.off + 3, none⟩ = some (.slice A557_3 ((rd_T25 t533 0).f3).length c557_3)) (ds := []) #[false, false, false, false, false, false, false, false, false, false, false, false, false, false, false, false, false, false, false] (by kernel_rfl) rfl rfl ⟨cw0 BK536, cw1 BK536, (blk_cell BK536.out 2).trans rfl, (blk_cell BK536.out 3).trans rfl, hx556_0, hx556_1, hx556_2, hx556_3, hx557_0, hx557_1, hx557_2, hx557_3⟩ (fun hHeld => ?_); refine with_tabW laws_FnExprSwap.tab8 laws_FnExprSwap.bits8 (fun HT_ HW_ => ?_)
          generalize w195.drew = w196 at HO535 BK536 BK540 BK544 HB HL556_3 HL557_3 HR556_3 HR557_3 hx556_0 hx556_1 hx556_2 hx556_3 hx557_0 hx557_1 hx557_2 hx557_3 hHeld ⊢
          refine pU 0 57 #[true, false, false, false, false, false, false, false, false, false, false, false, false, false, false, false, false, false, false] HT_ ?_
          refine pU 2 59 #[true, false, true, false, false, false, false, false, false, false, false, false, false, false, false, false, false, false, false] HT_ ?_
          refine pU 6 63 #[true, false, true, false, false, false, true, false, false, false, false, false, false, false, false, false, false, false, false] HT_ ?_
          refine take_ (i := 1) (N := some 58) (v := ?_) (a' := ?_) #[true, true, true, false, false, false, true, false, false, false, false, false, false, false, false, false, false, false, false] rfl rfl (take_ofW HT_.out HW_.out (by kernel_rfl)) (fun _ _ _ h => h) (Or.inl ⟨by rfl, ?_⟩) hHeld ?_ ?_
          rotate_left
          ·rintro w' ⟨s0, s1, s2, s3, s4, s5, s6, s7, s8, s9, s10, s11⟩
           go_simp
           with_reducible rfl
          rotate_left
          ·simp only [Act.put, List.setIfInBounds_toArray, List.set_cons_zero, List.set_cons_succ, i64_w, i32_w]
           rfl
          refine take_ (i := 3) (N := some 60) (v := ?_) (a' := ?_) #[true, true, true, true, false, false, true, false, false, false, false, false, false, false, false, false, false, false, false] rfl rfl (take_ofW HT_.out HW_.out (by kernel_rfl)) (fun _ _ _ h => h) (Or.inl ⟨by rfl, ?_⟩) hHeld ?_ ?_
          rotate_left
          ·rintro w' ⟨s0, s1, s2, s3, s4, s5, s6, s7, s8, s9, s10, s11⟩
           go_simp
           with_reducible rfl
          rotate_left
          ·simp only [Act.put, List.setIfInBounds_toArray, List.set_cons_zero, List.set_cons_succ, i64_w, i32_w]
           rfl
          refine pU 4 61 #[true, true, true, true, true, false, true, false, false, false, false, false, false, false, false, false, false, false, false] HT_ ?_
          refine take_ (i := 5) (N := some 62) (v := ?_) (a' := ?_) #[true, true, true, true, true, true, true, false, false, false, false, false, false, false, false, false, false, false, false] rfl rfl (take_ofW HT_.out HW_.out (by kernel_rfl)) (fun _ _ _ h => h) (Or.inl ⟨by rfl, ?_⟩) hHeld ?_ ?_
          rotate_left
          ·rintro w' ⟨s0, s1, s2, s3, s4, s5, s6, s7, s8, s9, s10, s11⟩
           go_simp
           with_reducible rfl
          rotate_left
          ·simp only [Act.put, List.setIfInBounds_toArray, List.set_cons_zero, List.set_cons_succ, i64_w, i32_w]
           rfl
          refine take_ (i := 7) (N := some 64) (v := ?_) (a' := ?_) #[true, true, true, true, true, true, true, true, false, false, false, false, false, false, false, false, false, false, false] rfl rfl (take_ofW HT_.out HW_.out (by kernel_rfl)) (fun _ _ _ h => h) (Or.inl ⟨by rfl, ?_⟩) hHeld ?_ ?_
          rotate_left
          ·rintro w' ⟨s0, s1, s2, s3, s4, s5, s6, s7, s8, s9, s10, s11⟩
           go_simp
           with_reducible rfl
          rotate_left
          ·simp only [Act.put, List.setIfInBounds_toArray, List.set_cons_zero, List.set_cons_succ, i64_w, i32_w]
           rfl
          refine pU 8 65 #[true, true, true, true, true, true, true, true, true, false, false, false, false, false, false, false, false, false, false] HT_ ?_
          refine take_ (i := 9) (N := some 66) (v := ?_) (a' := ?_) #[true, true, true, true, true, true, true, true, true, true, false, false, false, false, false, false, false, false, false] rfl rfl (take_ofW HT_.out HW_.out (by kernel_rfl)) (fun _ _ _ h => h) (Or.inl ⟨by rfl, ?_⟩) hHeld ?_ ?_
          rotate_left
          ·rintro w' ⟨s0, s1, s2, s3, s4, s5, s6, s7, s8, s9, s10, s11⟩
           go_simp
           with_reducible rfl
          rotate_left
          ·simp only [Act.put, List.setIfInBounds_toArray, List.set_cons_zero, List.set_cons_succ, i64_w, i32_w]
           rfl
          refine join_ (σ := Value × Nat) 2 #[true, true, true, true, true, true, true, true, true, true, true, true, true, true, true, true, true, false, false] (fun s_ => [(67, s_.1), (69, .tuple #[.agg #[.int .i64 t561, .int .i64 t562], .bool t563]), (8, .pointer (some ⟨s_.2, 0, none⟩)), (68, .agg #[.int .i64 t530, .int .i64 0, .int .i64 0, s_.1]), (56, .tuple #[.agg #[.int .i64 t561, .int .i64 t562], .bool t563]), (70, .agg #[.int .i64 t561, .int .i64 t562]), (71, .bool t563)]) (fun s_ w' => (w'.cell? ⟨gb536, 0, none⟩ = some (.int .i64 t530) ∧ w'.cell? ⟨gb536, 1, none⟩ = some (.int .i64 t531) ∧ w'.cell? ⟨gb536, 2, none⟩ = some (.int .i64 t532) ∧ w'.cell? ⟨gb536, 3, none⟩ = some (.slice (some ad556) t533.length co182) ∧ w'.cell? ⟨ad556.block, ad556.off + 4, none⟩ = some (.int .i64 ((rd_T25 t533 1).f0)) ∧ w'.cell? ⟨ad556.block, ad556.off + 4 + 1, none⟩ = some (.int .i64 ((rd_T25 t533 1).f1)) ∧ w'.cell? ⟨ad556.block, ad556.off + 4 + 2, none⟩ = some (.int .i64 ((rd_T25 t533 1).f2)) ∧ w'.cell? ⟨ad556.block, ad556.off + 4 + 3, none⟩ = some (.slice A556_3 ((rd_T25 t533 1).f3).length c556_3) ∧ w'.cell? ad556 = some (.int .i64 ((rd_T25 t533 0).f0)) ∧ w'.cell? ⟨ad556.block, ad556.off + 1, none⟩ = some (.int .i64 ((rd_T25 t533 0).f1)) ∧ w'.cell? ⟨ad556.block, ad556.off + 2, none⟩ = some (.int .i64 ((rd_T25 t533 0).f2)) ∧ w'.cell? ⟨ad556.block, ad556.off + 3, none⟩ = some (.slice A557_3 ((rd_T25 t533 0).f3).length c557_3)) ∧ (Kd.V k25 25 w' w.heap.size (fun k_ => some k_ ≠ (.slice (some ad556) t533.length co182 : Value).ownBlock ∧ some k_ ≠ (s_.1 : Value).ownBlock ∧ k_ ≠ gb536 ∧ k_ ≠ gb540 ∧ k_ ≠ gb544 ∧ k_ ≠ s_.2) (.slice A556_3 ((rd_T25 t533 1).f3).length c556_3) ((rd_T25 t533 1).f3)) ∧ (Kd.V k25 25 w' w.heap.size (fun k_ => some k_ ≠ (.slice (some ad556) t533.length co182 : Value).ownBlock ∧ some k_ ≠ (s_.1 : Value).ownBlock ∧ k_ ≠ gb536 ∧ k_ ≠ gb540 ∧ k_ ≠ gb544 ∧ k_ ≠ s_.2) (.slice A557_3 ((rd_T25 t533 0).f3).length c557_3) ((rd_T25 t533 0).f3)) ∧ (Kd.N k25 25 w' w.heap.size (fun k_ => some k_ ≠ (s_.1 : Value).ownBlock ∧ k_ ≠ gb536 ∧ k_ ≠ gb540 ∧ k_ ≠ gb544 ∧ k_ ≠ s_.2) (.slice (some ad556) t533.length co182) t533) ∧ (Kd.N k25 25 w' w.heap.size (fun k_ => some k_ ≠ (.slice (some ad556) t533.length co182 : Value).ownBlock ∧ k_ ≠ gb536 ∧ k_ ≠ gb540 ∧ k_ ≠ gb544 ∧ k_ ≠ s_.2) s_.1 y558) ∧ (w'.heap[gb536]? = some (.cells #[.int .i64 t530, .int .i64 t531, .int .i64 t532, .slice (some ad556) t533.length co182] 25 (0, 0))) ∧ (w'.heap[gb540]? = some (.cells #[.int .i64 t537, .int .i64 t538] 31 (0, 0))) ∧ (w'.heap[gb544]? = some (.cells #[.int .i64 t541, .int .i64 t542] 31 (0, 0))) ∧ (w'.heap[s_.2]? = some (.cells #[.int .i64 0, .int .i64 0] 31 (0, 0))) ∧ (w.heap.size ≤ s_.2) ∧ (w.heap.size ≤ s_.2) ∧ (gb536 ≠ s_.2) ∧ (s_.2 ≠ gb536) ∧ (gb540 ≠ s_.2) ∧ (s_.2 ≠ gb540) ∧ (gb544 ≠ s_.2) ∧ (s_.2 ≠ gb544) ∧ (Below w.heap.size w w')) ?_ ?_
          rotate_left
          ·intro hCont
           refine tW 10 16 67 8 #[true, true, true, true, true, true, true, true, true, true, true, false, false, false, false, false, false, false, false] #[true, true, true, true, true, true, true, true, true, true, false, false, false, false, false, false, true, false, false] HT_ (fun K hK => ?_) (fun K hK => ?_)
           ·skip
            refine Kd.N_lit_step k25 _ 25 ?hg (N' := 67) ?hd (xs := ([(⟨(rd_T25 t533 1).f0, (rd_T25 t533 1).f1, (rd_T25 t533 1).f2, (rd_T25 t533 1).f3⟩ : S25), (⟨(rd_T25 t533 0).f0, (rd_T25 t533 0).f1, (rd_T25 t533 0).f2, (rd_T25 t533 0).f3⟩ : S25)] : List (S25))) (inner := [.int .i64 ((rd_T25 t533 1).f0), .int .i64 ((rd_T25 t533 1).f1), .int .i64 ((rd_T25 t533 1).f2), .slice A556_3 ((rd_T25 t533 1).f3).length c556_3, .int .i64 ((rd_T25 t533 0).f0), .int .i64 ((rd_T25 t533 0).f1), .int .i64 ((rd_T25 t533 0).f2), .slice A557_3 ((rd_T25 t533 0).f3).length c557_3]) (ok := (fun k_ => some k_ ≠ (.slice (some ad556) t533.length co182 : Value).ownBlock ∧ k_ ≠ gb536 ∧ k_ ≠ gb540 ∧ k_ ≠ gb544)) (okp := (fun k_ => some k_ ≠ (.slice (some ad556) t533.length co182 : Value).ownBlock ∧ k_ ≠ gb536 ∧ k_ ≠ gb540 ∧ k_ ≠ gb544)) ?hr ?hp (fun _ hk => hk) ((show ∀ k_, w196.heap.size ≤ k_ → (fun k_ => some k_ ≠ (.slice (some ad556) t533.length co182 : Value).ownBlock ∧ k_ ≠ gb536 ∧ k_ ≠ gb540 ∧ k_ ≠ gb544) k_ from fun k_ hk => ⟨Kd.fresh' (Kd.N_lt (by (with_reducible repeat (first | apply Kd.N_alloc | apply Kd.N_drewN | apply Kd.N_drew)); exact HO535.out)) k_ hk, Kd.freshB (g := gb536) (o := .cells #[.int .i64 t530, .int .i64 t531, .int .i64 t532, .slice (some ad556) t533.length co182] 25 (0, 0)) (bk BK536) k_ hk, Kd.freshB (g := gb540) (o := .cells #[.int .i64 t537, .int .i64 t538] 31 (0, 0)) (bk BK540) k_ hk, Kd.freshB (g := gb544) (o := .cells #[.int .i64 t541, .int .i64 t542] 31 (0, 0)) (bk BK544) k_ hk⟩) _ (Nat.le_refl _)) (Below.refl _ _) (Nat.le_refl _) (by simp) ?_; (case hd => rfl); (case hg => rfl); (case hr => first | (go_simp; done) | (go_simp; rfl)); (case hp => exact (Reps.c4 (show Kd.FK k25 _ _ (⟨(rd_T25 t533 1).f0, (rd_T25 t533 1).f1, (rd_T25 t533 1).f2, (rd_T25 t533 1).f3⟩ : S25) [.int .i64 ((rd_T25 t533 1).f0), .int .i64 ((rd_T25 t533 1).f1), .int .i64 ((rd_T25 t533 1).f2), .slice A556_3 ((rd_T25 t533 1).f3).length c556_3] from (k25_mkF _ _ (⟨(rd_T25 t533 1).f0, (rd_T25 t533 1).f1, (rd_T25 t533 1).f2, (rd_T25 t533 1).f3⟩ : S25) (Kd.V_reads' (Kd.V_mono (ok' := (fun k_ => some k_ ≠ (.slice (some ad556) t533.length co182 : Value).ownBlock ∧ k_ ≠ gb536 ∧ k_ ≠ gb540 ∧ k_ ≠ gb544)) (HL556_3.out) (fun k_ hk => ⟨hk.2, ⟨hk.1.1.1.2, ⟨hk.1.1.2, hk.1.2⟩⟩⟩))).2.1 (Kd.V_F (Kd.V_mono (ok' := (fun k_ => some k_ ≠ (.slice (some ad556) t533.length co182 : Value).ownBlock ∧ k_ ≠ gb536 ∧ k_ ≠ gb540 ∧ k_ ≠ gb544)) (HL556_3.out) (fun k_ hk => ⟨hk.2, ⟨hk.1.1.1.2, ⟨hk.1.1.2, hk.1.2⟩⟩⟩))))) (Reps.c4 (show Kd.FK k25 _ _ (⟨(rd_T25 t533 0).f0, (rd_T25 t533 0).f1, (rd_T25 t533 0).f2, (rd_T25 t533 0).f3⟩ : S25) [.int .i64 ((rd_T25 t533 0).f0), .int .i64 ((rd_T25 t533 0).f1), .int .i64 ((rd_T25 t533 0).f2), .slice A557_3 ((rd_T25 t533 0).f3).length c557_3] from (k25_mkF _ _ (⟨(rd_T25 t533 0).f0, (rd_T25 t533 0).f1, (rd_T25 t533 0).f2, (rd_T25 t533 0).f3⟩ : S25) (Kd.V_reads' (Kd.V_mono (ok' := (fun k_ => some k_ ≠ (.slice (some ad556) t533.length co182 : Value).ownBlock ∧ k_ ≠ gb536 ∧ k_ ≠ gb540 ∧ k_ ≠ gb544)) (HL557_3.out) (fun k_ hk => ⟨hk.2, ⟨hk.1.1.1.2, ⟨hk.1.1.2, hk.1.2⟩⟩⟩))).2.1 (Kd.V_F (Kd.V_mono (ok' := (fun k_ => some k_ ≠ (.slice (some ad556) t533.length co182 : Value).ownBlock ∧ k_ ≠ gb536 ∧ k_ ≠ gb540 ∧ k_ ≠ gb544)) (HL557_3.out) (fun k_ hk => ⟨hk.2, ⟨hk.1.1.1.2, ⟨hk.1.1.2, hk.1.2⟩⟩⟩))))) (Reps.none _ _))))
            intro v559 w197 ho198 hb hg_ hnew_
            have HS4_ := (hb.cell (World.block_lt_of_cell? _ _ (hHeld.2.2.2.2.1))).trans (hHeld.2.2.2.2.1)
            have HS5_ := (hb.cell (World.block_lt_of_cell? _ _ (hHeld.2.2.2.2.2.1))).trans (hHeld.2.2.2.2.2.1)
            have HS6_ := (hb.cell (World.block_lt_of_cell? _ _ (hHeld.2.2.2.2.2.2.1))).trans (hHeld.2.2.2.2.2.2.1)
            have HS7_ := (hb.cell (World.block_lt_of_cell? _ _ (hHeld.2.2.2.2.2.2.2.1))).trans (hHeld.2.2.2.2.2.2.2.1)
            have HS8_ := (hb.cell (World.block_lt_of_cell? _ _ (hHeld.2.2.2.2.2.2.2.2.1))).trans (hHeld.2.2.2.2.2.2.2.2.1)
            have HS9_ := (hb.cell (World.block_lt_of_cell? _ _ (hHeld.2.2.2.2.2.2.2.2.2.1))).trans (hHeld.2.2.2.2.2.2.2.2.2.1)
            have HS10_ := (hb.cell (World.block_lt_of_cell? _ _ (hHeld.2.2.2.2.2.2.2.2.2.2.1))).trans (hHeld.2.2.2.2.2.2.2.2.2.2.1)
            have HS11_ := (hb.cell (World.block_lt_of_cell? _ _ (hHeld.2.2.2.2.2.2.2.2.2.2.2))).trans (hHeld.2.2.2.2.2.2.2.2.2.2.2)
            clear hg_ hnew_
            (first | rw [← Ny558.out] at ho198 | (simp only [Int.reduceToNat] at ho198; rw [← Ny558.out] at ho198))
            have HO560 := Aside0.mk (Kd.N_lower ho198 (below_size (hzs HB)))
            replace HO535 := Aside0.mk (Kd.N_elder' (by (with_reducible repeat (first | apply Kd.N_alloc | apply Kd.N_drewN | apply Kd.N_drew)); exact HO535.out) (Kd.N_base ho198) hb)
            replace HL556_3 := Aside0.mk (Kd.V_elder' (by (with_reducible repeat (first | apply Kd.V_alloc | apply Kd.V_drewN | apply Kd.V_drew)); exact HL556_3.out) (Kd.N_base ho198) hb)
            replace HL557_3 := Aside0.mk (Kd.V_elder' (by (with_reducible repeat (first | apply Kd.V_alloc | apply Kd.V_drewN | apply Kd.V_drew)); exact HL557_3.out) (Kd.N_base ho198) hb)
            replace BK536 := bb (bk BK536) hb
            replace BK540 := bb (bk BK540) hb
            replace BK544 := bb (bk BK544) hb
            replace HR556_3 := Aside0.mk (Kd.C_below (by repeat (first | (with_reducible exact HR556_3.out) | (with_reducible refine Kd.C_alloc ?_ _) | (with_reducible refine Kd.C_drewN ?_ _) | (with_reducible refine Kd.C_drew ?_) | exact HR556_3.out)) hb)
            replace HR557_3 := Aside0.mk (Kd.C_below (by repeat (first | (with_reducible exact HR557_3.out) | (with_reducible refine Kd.C_alloc ?_ _) | (with_reducible refine Kd.C_drewN ?_ _) | (with_reducible refine Kd.C_drew ?_) | exact HR557_3.out)) hb)
            replace HB := hbb (hzs HB) hb
            clear hb ho198
            obtain ⟨Ao199, co199, eo199⟩ := Kd.N_slice HO560.out
            (first | subst eo199 | (injection eo199 with f1_ f2_ f3_; have f4_ := f1_.symm; have f5_ := f3_.symm; clear f1_ f2_ f3_; subst f4_; subst f5_))
            refine hK.out _ _ ⟨cw0 BK536, cw1 BK536, (blk_cell BK536.out 2).trans rfl, (blk_cell BK536.out 3).trans rfl, HS4_, HS5_, HS6_, HS7_, HS8_, HS9_, HS10_, HS11_⟩ (fun hHeld => ?_)
            clear hK K
            refine nP ?_
            refine pU 11 68 #[true, true, true, true, true, true, true, true, true, true, true, true, false, false, false, false, false, false, false] HT_ ?_
            refine tW 12 16 69 8 #[true, true, true, true, true, true, true, true, true, true, true, true, true, false, false, false, false, false, false] #[true, true, true, true, true, true, true, true, true, true, true, true, false, false, false, false, true, false, false] HT_ (fun K hK => ?_) (fun K hK => ?_)
            ·skip
             refine gS Try.func18 #[.agg #[.int .i64 t530, .int .i64 0, .int .i64 0, .slice Ao199 y558.length co199]] ?_
             with_reducible refine (impl_ExprSpan.calls k t530 0 0 _ _ y558 t561 t562 t563 _ ?side1 ?side2 A177.out).mono ?_
             (case side1 => repeat (first | exact (Kd.N_reads' HO560.out).2.2 | (with_reducible refine Kd.C_alloc ?_ _) | (with_reducible refine Kd.C_drewN ?_ _) | (with_reducible refine Kd.C_drew ?_)))
             (case side2 => exact (Kd.N_reads' HO560.out).2.1)
             rintro e w200 ⟨rfl, hb⟩
             have HS4_ := (hb.cell (World.block_lt_of_cell? _ _ (hHeld.2.2.2.2.1))).trans (hHeld.2.2.2.2.1)
             have HS5_ := (hb.cell (World.block_lt_of_cell? _ _ (hHeld.2.2.2.2.2.1))).trans (hHeld.2.2.2.2.2.1)
             have HS6_ := (hb.cell (World.block_lt_of_cell? _ _ (hHeld.2.2.2.2.2.2.1))).trans (hHeld.2.2.2.2.2.2.1)
             have HS7_ := (hb.cell (World.block_lt_of_cell? _ _ (hHeld.2.2.2.2.2.2.2.1))).trans (hHeld.2.2.2.2.2.2.2.1)
             have HS8_ := (hb.cell (World.block_lt_of_cell? _ _ (hHeld.2.2.2.2.2.2.2.2.1))).trans (hHeld.2.2.2.2.2.2.2.2.1)
             have HS9_ := (hb.cell (World.block_lt_of_cell? _ _ (hHeld.2.2.2.2.2.2.2.2.2.1))).trans (hHeld.2.2.2.2.2.2.2.2.2.1)
             have HS10_ := (hb.cell (World.block_lt_of_cell? _ _ (hHeld.2.2.2.2.2.2.2.2.2.2.1))).trans (hHeld.2.2.2.2.2.2.2.2.2.2.1)
             have HS11_ := (hb.cell (World.block_lt_of_cell? _ _ (hHeld.2.2.2.2.2.2.2.2.2.2.2))).trans (hHeld.2.2.2.2.2.2.2.2.2.2.2)
             refine ⟨_, rfl, ?_⟩
             replace HO535 := Aside0.mk (Kd.N_below (by (with_reducible repeat (first | apply Kd.N_alloc | apply Kd.N_drewN | apply Kd.N_drew)); exact HO535.out) hb)
             replace HL556_3 := Aside0.mk (Kd.V_below (by (with_reducible repeat (first | apply Kd.V_alloc | apply Kd.V_drewN | apply Kd.V_drew)); exact HL556_3.out) hb)
             replace HL557_3 := Aside0.mk (Kd.V_below (by (with_reducible repeat (first | apply Kd.V_alloc | apply Kd.V_drewN | apply Kd.V_drew)); exact HL557_3.out) hb)
             replace HO560 := Aside0.mk (Kd.N_below (by (with_reducible repeat (first | apply Kd.N_alloc | apply Kd.N_drewN | apply Kd.N_drew)); exact HO560.out) hb)
             replace BK536 := bb (bk BK536) hb
             replace BK540 := bb (bk BK540) hb
             replace BK544 := bb (bk BK544) hb
             replace HR556_3 := Aside0.mk (Kd.C_below (by repeat (first | (with_reducible exact HR556_3.out) | (with_reducible refine Kd.C_alloc ?_ _) | (with_reducible refine Kd.C_drewN ?_ _) | (with_reducible refine Kd.C_drew ?_) | exact HR556_3.out)) hb)
             replace HR557_3 := Aside0.mk (Kd.C_below (by repeat (first | (with_reducible exact HR557_3.out) | (with_reducible refine Kd.C_alloc ?_ _) | (with_reducible refine Kd.C_drewN ?_ _) | (with_reducible refine Kd.C_drew ?_) | exact HR557_3.out)) hb)
             replace HB := hbb (hzs HB) hb
             clear hb
             refine hK.out _ _ ⟨cw0 BK536, cw1 BK536, (blk_cell BK536.out 2).trans rfl, (blk_cell BK536.out 3).trans rfl, HS4_, HS5_, HS6_, HS7_, HS8_, HS9_, HS10_, HS11_⟩ (fun hHeld => ?_)
             clear hK K
             refine nP ?_
             refine pU 13 56 #[true, true, true, true, true, true, true, true, true, true, true, true, true, true, false, false, false, false, false] HT_ ?_
             refine pU 14 70 #[true, true, true, true, true, true, true, true, true, true, true, true, true, true, true, false, false, false, false] HT_ ?_
             refine pU 15 71 #[true, true, true, true, true, true, true, true, true, true, true, true, true, true, true, true, false, false, false] HT_ ?_
             refine oN 16 8 #[true, true, true, true, true, true, true, true, true, true, true, true, true, true, true, true, true, false, false] HT_ (fun K hK => ?_)
             refine bS 8 #[.int .i64 0, .int .i64 0] 31 ?_
             intro gb564 hg w201 hbox hb
             have HS4_ := (hb.cell (World.block_lt_of_cell? _ _ (hHeld.2.2.2.2.1))).trans (hHeld.2.2.2.2.1)
             have HS5_ := (hb.cell (World.block_lt_of_cell? _ _ (hHeld.2.2.2.2.2.1))).trans (hHeld.2.2.2.2.2.1)
             have HS6_ := (hb.cell (World.block_lt_of_cell? _ _ (hHeld.2.2.2.2.2.2.1))).trans (hHeld.2.2.2.2.2.2.1)
             have HS7_ := (hb.cell (World.block_lt_of_cell? _ _ (hHeld.2.2.2.2.2.2.2.1))).trans (hHeld.2.2.2.2.2.2.2.1)
             have HS8_ := (hb.cell (World.block_lt_of_cell? _ _ (hHeld.2.2.2.2.2.2.2.2.1))).trans (hHeld.2.2.2.2.2.2.2.2.1)
             have HS9_ := (hb.cell (World.block_lt_of_cell? _ _ (hHeld.2.2.2.2.2.2.2.2.2.1))).trans (hHeld.2.2.2.2.2.2.2.2.2.1)
             have HS10_ := (hb.cell (World.block_lt_of_cell? _ _ (hHeld.2.2.2.2.2.2.2.2.2.2.1))).trans (hHeld.2.2.2.2.2.2.2.2.2.2.1)
             have HS11_ := (hb.cell (World.block_lt_of_cell? _ _ (hHeld.2.2.2.2.2.2.2.2.2.2.2))).trans (hHeld.2.2.2.2.2.2.2.2.2.2.2)
             have BK564 := Aside0.mk (hbox)
             have GE564 := gw hg (hzs HB)
             have GW564 := GE564
             have NB536_564 := nl hg (bk BK536)
             have NB564_536 := ng hg (bk BK536)
             have NB540_564 := nl hg (bk BK540)
             have NB564_540 := ng hg (bk BK540)
             have NB544_564 := nl hg (bk BK544)
             have NB564_544 := ng hg (bk BK544)
             replace HO535 := Aside0.mk (Kd.N_below (Kd.N_elderB (by (with_reducible repeat (first | apply Kd.N_alloc | apply Kd.N_drewN | apply Kd.N_drew)); exact HO535.out) gb564 (Nat.le_of_eq hg.symm)) hb)
             replace HL556_3 := Aside0.mk (Kd.V_below (Kd.V_elderB (by (with_reducible repeat (first | apply Kd.V_alloc | apply Kd.V_drewN | apply Kd.V_drew)); exact HL556_3.out) gb564 (Nat.le_of_eq hg.symm)) hb)
             replace HL557_3 := Aside0.mk (Kd.V_below (Kd.V_elderB (by (with_reducible repeat (first | apply Kd.V_alloc | apply Kd.V_drewN | apply Kd.V_drew)); exact HL557_3.out) gb564 (Nat.le_of_eq hg.symm)) hb)
             replace HO560 := Aside0.mk (Kd.N_below (Kd.N_elderB (by (with_reducible repeat (first | apply Kd.N_alloc | apply Kd.N_drewN | apply Kd.N_drew)); exact HO560.out) gb564 (Nat.le_of_eq hg.symm)) hb)
             replace BK536 := bb (bk BK536) hb
             replace BK540 := bb (bk BK540) hb
             replace BK544 := bb (bk BK544) hb
             replace HR556_3 := Aside0.mk (Kd.C_below (by repeat (first | (with_reducible exact HR556_3.out) | (with_reducible refine Kd.C_alloc ?_ _) | (with_reducible refine Kd.C_drewN ?_ _) | (with_reducible refine Kd.C_drew ?_) | exact HR556_3.out)) hb)
             replace HR557_3 := Aside0.mk (Kd.C_below (by repeat (first | (with_reducible exact HR557_3.out) | (with_reducible refine Kd.C_alloc ?_ _) | (with_reducible refine Kd.C_drewN ?_ _) | (with_reducible refine Kd.C_drew ?_) | exact HR557_3.out)) hb)
             replace HB := hbb (hzs HB) hb
             clear hb hbox hg
             refine hK.out _ _ ⟨cw0 BK536, cw1 BK536, (blk_cell BK536.out 2).trans rfl, (blk_cell BK536.out 3).trans rfl, HS4_, HS5_, HS6_, HS7_, HS8_, HS9_, HS10_, HS11_⟩ (fun hHeld => ?_)
             clear hK K
             refine nP ?_
             exact nm (hCont (.slice Ao199 y558.length co199, gb564) _ ⟨hHeld, (by (with_reducible repeat (first | apply Kd.V_alloc | apply Kd.V_drewN | apply Kd.V_drew)); exact Kd.V_mono HL556_3.out (fun _ hk => ⟨hk.1.1.2, ⟨hk.1.2, ⟨hk.1.1.1.1.1.2, ⟨hk.1.1.1.1.2, ⟨hk.1.1.1.2, hk.2⟩⟩⟩⟩⟩)), (by (with_reducible repeat (first | apply Kd.V_alloc | apply Kd.V_drewN | apply Kd.V_drew)); exact Kd.V_mono HL557_3.out (fun _ hk => ⟨hk.1.1.2, ⟨hk.1.2, ⟨hk.1.1.1.1.1.2, ⟨hk.1.1.1.1.2, ⟨hk.1.1.1.2, hk.2⟩⟩⟩⟩⟩)), (by (with_reducible repeat (first | apply Kd.N_alloc | apply Kd.N_drewN | apply Kd.N_drew)); exact Kd.N_mono HO535.out (fun _ hk => ⟨hk.1.2, ⟨hk.1.1.1.1.2, ⟨hk.1.1.1.2, ⟨hk.1.1.2, hk.2⟩⟩⟩⟩)), (by (with_reducible repeat (first | apply Kd.N_alloc | apply Kd.N_drewN | apply Kd.N_drew)); exact Kd.N_mono HO560.out (fun _ hk => ⟨hk.1.1, ⟨hk.1.2.1, ⟨hk.1.2.2.1, ⟨hk.1.2.2.2, hk.2⟩⟩⟩⟩)), (bk BK536), (bk BK540), (bk BK544), (bk BK564), GW564.out, GE564.out, NB536_564.out, NB564_536.out, NB540_564.out, NB564_540.out, NB544_564.out, NB564_544.out, (hzs HB)⟩)
            ·skip
             refine bS 8 #[.int .i64 0, .int .i64 0] 31 ?_
             intro gb564 hg w200 hbox hb
             have HS4_ := (hb.cell (World.block_lt_of_cell? _ _ (hHeld.2.2.2.2.1))).trans (hHeld.2.2.2.2.1)
             have HS5_ := (hb.cell (World.block_lt_of_cell? _ _ (hHeld.2.2.2.2.2.1))).trans (hHeld.2.2.2.2.2.1)
             have HS6_ := (hb.cell (World.block_lt_of_cell? _ _ (hHeld.2.2.2.2.2.2.1))).trans (hHeld.2.2.2.2.2.2.1)
             have HS7_ := (hb.cell (World.block_lt_of_cell? _ _ (hHeld.2.2.2.2.2.2.2.1))).trans (hHeld.2.2.2.2.2.2.2.1)
             have HS8_ := (hb.cell (World.block_lt_of_cell? _ _ (hHeld.2.2.2.2.2.2.2.2.1))).trans (hHeld.2.2.2.2.2.2.2.2.1)
             have HS9_ := (hb.cell (World.block_lt_of_cell? _ _ (hHeld.2.2.2.2.2.2.2.2.2.1))).trans (hHeld.2.2.2.2.2.2.2.2.2.1)
             have HS10_ := (hb.cell (World.block_lt_of_cell? _ _ (hHeld.2.2.2.2.2.2.2.2.2.2.1))).trans (hHeld.2.2.2.2.2.2.2.2.2.2.1)
             have HS11_ := (hb.cell (World.block_lt_of_cell? _ _ (hHeld.2.2.2.2.2.2.2.2.2.2.2))).trans (hHeld.2.2.2.2.2.2.2.2.2.2.2)
             have BK564 := Aside0.mk (hbox)
             have GE564 := gw hg (hzs HB)
             have GW564 := GE564
             have NB536_564 := nl hg (bk BK536)
             have NB564_536 := ng hg (bk BK536)
             have NB540_564 := nl hg (bk BK540)
             have NB564_540 := ng hg (bk BK540)
             have NB544_564 := nl hg (bk BK544)
             have NB564_544 := ng hg (bk BK544)
             replace HO535 := Aside0.mk (Kd.N_below (Kd.N_elderB (by (with_reducible repeat (first | apply Kd.N_alloc | apply Kd.N_drewN | apply Kd.N_drew)); exact HO535.out) gb564 (Nat.le_of_eq hg.symm)) hb)
             replace HL556_3 := Aside0.mk (Kd.V_below (Kd.V_elderB (by (with_reducible repeat (first | apply Kd.V_alloc | apply Kd.V_drewN | apply Kd.V_drew)); exact HL556_3.out) gb564 (Nat.le_of_eq hg.symm)) hb)
             replace HL557_3 := Aside0.mk (Kd.V_below (Kd.V_elderB (by (with_reducible repeat (first | apply Kd.V_alloc | apply Kd.V_drewN | apply Kd.V_drew)); exact HL557_3.out) gb564 (Nat.le_of_eq hg.symm)) hb)
             replace HO560 := Aside0.mk (Kd.N_below (Kd.N_elderB (by (with_reducible repeat (first | apply Kd.N_alloc | apply Kd.N_drewN | apply Kd.N_drew)); exact HO560.out) gb564 (Nat.le_of_eq hg.symm)) hb)
             replace BK536 := bb (bk BK536) hb
             replace BK540 := bb (bk BK540) hb
             replace BK544 := bb (bk BK544) hb
             replace HR556_3 := Aside0.mk (Kd.C_below (by repeat (first | (with_reducible exact HR556_3.out) | (with_reducible refine Kd.C_alloc ?_ _) | (with_reducible refine Kd.C_drewN ?_ _) | (with_reducible refine Kd.C_drew ?_) | exact HR556_3.out)) hb)
             replace HR557_3 := Aside0.mk (Kd.C_below (by repeat (first | (with_reducible exact HR557_3.out) | (with_reducible refine Kd.C_alloc ?_ _) | (with_reducible refine Kd.C_drewN ?_ _) | (with_reducible refine Kd.C_drew ?_) | exact HR557_3.out)) hb)
             replace HB := hbb (hzs HB) hb
             clear hb hbox hg
             refine hK.out _ _ ⟨cw0 BK536, cw1 BK536, (blk_cell BK536.out 2).trans rfl, (blk_cell BK536.out 3).trans rfl, HS4_, HS5_, HS6_, HS7_, HS8_, HS9_, HS10_, HS11_⟩ (fun hHeld => ?_)
             clear hK K
             refine nP ?_
             refine oN 12 69 #[true, true, true, true, true, true, true, true, true, true, true, true, true, false, false, false, true, false, false] HT_ (fun K hK => ?_)
             refine gS Try.func18 #[.agg #[.int .i64 t530, .int .i64 0, .int .i64 0, .slice Ao199 y558.length co199]] ?_
             with_reducible refine (impl_ExprSpan.calls k t530 0 0 _ _ y558 t561 t562 t563 _ ?side1 ?side2 A177.out).mono ?_
             (case side1 => repeat (first | exact (Kd.N_reads' HO560.out).2.2 | (with_reducible refine Kd.C_alloc ?_ _) | (with_reducible refine Kd.C_drewN ?_ _) | (with_reducible refine Kd.C_drew ?_)))
             (case side2 => exact (Kd.N_reads' HO560.out).2.1)
             rintro e w201 ⟨rfl, hb⟩
             have HS4_ := (hb.cell (World.block_lt_of_cell? _ _ (hHeld.2.2.2.2.1))).trans (hHeld.2.2.2.2.1)
             have HS5_ := (hb.cell (World.block_lt_of_cell? _ _ (hHeld.2.2.2.2.2.1))).trans (hHeld.2.2.2.2.2.1)
             have HS6_ := (hb.cell (World.block_lt_of_cell? _ _ (hHeld.2.2.2.2.2.2.1))).trans (hHeld.2.2.2.2.2.2.1)
             have HS7_ := (hb.cell (World.block_lt_of_cell? _ _ (hHeld.2.2.2.2.2.2.2.1))).trans (hHeld.2.2.2.2.2.2.2.1)
             have HS8_ := (hb.cell (World.block_lt_of_cell? _ _ (hHeld.2.2.2.2.2.2.2.2.1))).trans (hHeld.2.2.2.2.2.2.2.2.1)
             have HS9_ := (hb.cell (World.block_lt_of_cell? _ _ (hHeld.2.2.2.2.2.2.2.2.2.1))).trans (hHeld.2.2.2.2.2.2.2.2.2.1)
             have HS10_ := (hb.cell (World.block_lt_of_cell? _ _ (hHeld.2.2.2.2.2.2.2.2.2.2.1))).trans (hHeld.2.2.2.2.2.2.2.2.2.2.1)
             have HS11_ := (hb.cell (World.block_lt_of_cell? _ _ (hHeld.2.2.2.2.2.2.2.2.2.2.2))).trans (hHeld.2.2.2.2.2.2.2.2.2.2.2)
             refine ⟨_, rfl, ?_⟩
             replace HO535 := Aside0.mk (Kd.N_below (by (with_reducible repeat (first | apply Kd.N_alloc | apply Kd.N_drewN | apply Kd.N_drew)); exact HO535.out) hb)
             replace HL556_3 := Aside0.mk (Kd.V_below (by (with_reducible repeat (first | apply Kd.V_alloc | apply Kd.V_drewN | apply Kd.V_drew)); exact HL556_3.out) hb)
             replace HL557_3 := Aside0.mk (Kd.V_below (by (with_reducible repeat (first | apply Kd.V_alloc | apply Kd.V_drewN | apply Kd.V_drew)); exact HL557_3.out) hb)
             replace HO560 := Aside0.mk (Kd.N_below (by (with_reducible repeat (first | apply Kd.N_alloc | apply Kd.N_drewN | apply Kd.N_drew)); exact HO560.out) hb)
             replace BK536 := bb (bk BK536) hb
             replace BK540 := bb (bk BK540) hb
             replace BK544 := bb (bk BK544) hb
             replace HR556_3 := Aside0.mk (Kd.C_below (by repeat (first | (with_reducible exact HR556_3.out) | (with_reducible refine Kd.C_alloc ?_ _) | (with_reducible refine Kd.C_drewN ?_ _) | (with_reducible refine Kd.C_drew ?_) | exact HR556_3.out)) hb)
             replace HR557_3 := Aside0.mk (Kd.C_below (by repeat (first | (with_reducible exact HR557_3.out) | (with_reducible refine Kd.C_alloc ?_ _) | (with_reducible refine Kd.C_drewN ?_ _) | (with_reducible refine Kd.C_drew ?_) | exact HR557_3.out)) hb)
             replace BK564 := bb (bk BK564) hb
             replace HB := hbb (hzs HB) hb
             clear hb
             refine hK.out _ _ ⟨cw0 BK536, cw1 BK536, (blk_cell BK536.out 2).trans rfl, (blk_cell BK536.out 3).trans rfl, HS4_, HS5_, HS6_, HS7_, HS8_, HS9_, HS10_, HS11_⟩ (fun hHeld => ?_)
             clear hK K
             refine nP ?_
             refine pU 13 56 #[true, true, true, true, true, true, true, true, true, true, true, true, true, true, false, false, true, false, false] HT_ ?_
             refine pU 14 70 #[true, true, true, true, true, true, true, true, true, true, true, true, true, true, true, false, true, false, false] HT_ ?_
             refine pU 15 71 #[true, true, true, true, true, true, true, true, true, true, true, true, true, true, true, true, true, false, false] HT_ ?_
             exact nm (hCont (.slice Ao199 y558.length co199, gb564) _ ⟨hHeld, (by (with_reducible repeat (first | apply Kd.V_alloc | apply Kd.V_drewN | apply Kd.V_drew)); exact Kd.V_mono HL556_3.out (fun _ hk => ⟨hk.1.1.2, ⟨hk.1.2, ⟨hk.1.1.1.1.1.2, ⟨hk.1.1.1.1.2, ⟨hk.1.1.1.2, hk.2⟩⟩⟩⟩⟩)), (by (with_reducible repeat (first | apply Kd.V_alloc | apply Kd.V_drewN | apply Kd.V_drew)); exact Kd.V_mono HL557_3.out (fun _ hk => ⟨hk.1.1.2, ⟨hk.1.2, ⟨hk.1.1.1.1.1.2, ⟨hk.1.1.1.1.2, ⟨hk.1.1.1.2, hk.2⟩⟩⟩⟩⟩)), (by (with_reducible repeat (first | apply Kd.N_alloc | apply Kd.N_drewN | apply Kd.N_drew)); exact Kd.N_mono HO535.out (fun _ hk => ⟨hk.1.2, ⟨hk.1.1.1.1.2, ⟨hk.1.1.1.2, ⟨hk.1.1.2, hk.2⟩⟩⟩⟩)), (by (with_reducible repeat (first | apply Kd.N_alloc | apply Kd.N_drewN | apply Kd.N_drew)); exact Kd.N_mono HO560.out (fun _ hk => ⟨hk.1.1, ⟨hk.1.2.1, ⟨hk.1.2.2.1, ⟨hk.1.2.2.2, hk.2⟩⟩⟩⟩)), (bk BK536), (bk BK540), (bk BK544), (bk BK564), GW564.out, GE564.out, NB536_564.out, NB564_536.out, NB540_564.out, NB564_540.out, NB544_564.out, NB564_544.out, (hzs HB)⟩)
           ·skip
            refine bS 8 #[.int .i64 0, .int .i64 0] 31 ?_
            intro gb564 hg w197 hbox hb
            have HS4_ := (hb.cell (World.block_lt_of_cell? _ _ (hHeld.2.2.2.2.1))).trans (hHeld.2.2.2.2.1)
            have HS5_ := (hb.cell (World.block_lt_of_cell? _ _ (hHeld.2.2.2.2.2.1))).trans (hHeld.2.2.2.2.2.1)
            have HS6_ := (hb.cell (World.block_lt_of_cell? _ _ (hHeld.2.2.2.2.2.2.1))).trans (hHeld.2.2.2.2.2.2.1)
            have HS7_ := (hb.cell (World.block_lt_of_cell? _ _ (hHeld.2.2.2.2.2.2.2.1))).trans (hHeld.2.2.2.2.2.2.2.1)
            have HS8_ := (hb.cell (World.block_lt_of_cell? _ _ (hHeld.2.2.2.2.2.2.2.2.1))).trans (hHeld.2.2.2.2.2.2.2.2.1)
            have HS9_ := (hb.cell (World.block_lt_of_cell? _ _ (hHeld.2.2.2.2.2.2.2.2.2.1))).trans (hHeld.2.2.2.2.2.2.2.2.2.1)
            have HS10_ := (hb.cell (World.block_lt_of_cell? _ _ (hHeld.2.2.2.2.2.2.2.2.2.2.1))).trans (hHeld.2.2.2.2.2.2.2.2.2.2.1)
            have HS11_ := (hb.cell (World.block_lt_of_cell? _ _ (hHeld.2.2.2.2.2.2.2.2.2.2.2))).trans (hHeld.2.2.2.2.2.2.2.2.2.2.2)
            have BK564 := Aside0.mk (hbox)
            have GE564 := gw hg (hzs HB)
            have GW564 := GE564
            have NB536_564 := nl hg (bk BK536)
            have NB564_536 := ng hg (bk BK536)
            have NB540_564 := nl hg (bk BK540)
            have NB564_540 := ng hg (bk BK540)
            have NB544_564 := nl hg (bk BK544)
            have NB564_544 := ng hg (bk BK544)
            replace HO535 := Aside0.mk (Kd.N_below (Kd.N_elderB (by (with_reducible repeat (first | apply Kd.N_alloc | apply Kd.N_drewN | apply Kd.N_drew)); exact HO535.out) gb564 (Nat.le_of_eq hg.symm)) hb)
            replace HL556_3 := Aside0.mk (Kd.V_below (Kd.V_elderB (by (with_reducible repeat (first | apply Kd.V_alloc | apply Kd.V_drewN | apply Kd.V_drew)); exact HL556_3.out) gb564 (Nat.le_of_eq hg.symm)) hb)
            replace HL557_3 := Aside0.mk (Kd.V_below (Kd.V_elderB (by (with_reducible repeat (first | apply Kd.V_alloc | apply Kd.V_drewN | apply Kd.V_drew)); exact HL557_3.out) gb564 (Nat.le_of_eq hg.symm)) hb)
            replace BK536 := bb (bk BK536) hb
            replace BK540 := bb (bk BK540) hb
            replace BK544 := bb (bk BK544) hb
            replace HR556_3 := Aside0.mk (Kd.C_below (by repeat (first | (with_reducible exact HR556_3.out) | (with_reducible refine Kd.C_alloc ?_ _) | (with_reducible refine Kd.C_drewN ?_ _) | (with_reducible refine Kd.C_drew ?_) | exact HR556_3.out)) hb)
            replace HR557_3 := Aside0.mk (Kd.C_below (by repeat (first | (with_reducible exact HR557_3.out) | (with_reducible refine Kd.C_alloc ?_ _) | (with_reducible refine Kd.C_drewN ?_ _) | (with_reducible refine Kd.C_drew ?_) | exact HR557_3.out)) hb)
            replace HB := hbb (hzs HB) hb
            clear hb hbox hg
            refine hK.out _ _ ⟨cw0 BK536, cw1 BK536, (blk_cell BK536.out 2).trans rfl, (blk_cell BK536.out 3).trans rfl, HS4_, HS5_, HS6_, HS7_, HS8_, HS9_, HS10_, HS11_⟩ (fun hHeld => ?_)
            clear hK K
            refine nP ?_
            refine oN 10 67 #[true, true, true, true, true, true, true, true, true, true, true, false, false, false, false, false, true, false, false] HT_ (fun K hK => ?_)
            refine Kd.N_lit_step k25 _ 25 ?hg (N' := 67) ?hd (xs := ([(⟨(rd_T25 t533 1).f0, (rd_T25 t533 1).f1, (rd_T25 t533 1).f2, (rd_T25 t533 1).f3⟩ : S25), (⟨(rd_T25 t533 0).f0, (rd_T25 t533 0).f1, (rd_T25 t533 0).f2, (rd_T25 t533 0).f3⟩ : S25)] : List (S25))) (inner := [.int .i64 ((rd_T25 t533 1).f0), .int .i64 ((rd_T25 t533 1).f1), .int .i64 ((rd_T25 t533 1).f2), .slice A556_3 ((rd_T25 t533 1).f3).length c556_3, .int .i64 ((rd_T25 t533 0).f0), .int .i64 ((rd_T25 t533 0).f1), .int .i64 ((rd_T25 t533 0).f2), .slice A557_3 ((rd_T25 t533 0).f3).length c557_3]) (ok := (fun k_ => some k_ ≠ (.slice (some ad556) t533.length co182 : Value).ownBlock ∧ k_ ≠ gb536 ∧ k_ ≠ gb540 ∧ k_ ≠ gb544 ∧ k_ ≠ gb564)) (okp := (fun k_ => some k_ ≠ (.slice (some ad556) t533.length co182 : Value).ownBlock ∧ k_ ≠ gb536 ∧ k_ ≠ gb540 ∧ k_ ≠ gb544 ∧ k_ ≠ gb564)) ?hr ?hp (fun _ hk => hk) ((show ∀ k_, w197.heap.size ≤ k_ → (fun k_ => some k_ ≠ (.slice (some ad556) t533.length co182 : Value).ownBlock ∧ k_ ≠ gb536 ∧ k_ ≠ gb540 ∧ k_ ≠ gb544 ∧ k_ ≠ gb564) k_ from fun k_ hk => ⟨Kd.fresh' (Kd.N_lt (by (with_reducible repeat (first | apply Kd.N_alloc | apply Kd.N_drewN | apply Kd.N_drew)); exact HO535.out)) k_ hk, Kd.freshB (g := gb536) (o := .cells #[.int .i64 t530, .int .i64 t531, .int .i64 t532, .slice (some ad556) t533.length co182] 25 (0, 0)) (bk BK536) k_ hk, Kd.freshB (g := gb540) (o := .cells #[.int .i64 t537, .int .i64 t538] 31 (0, 0)) (bk BK540) k_ hk, Kd.freshB (g := gb544) (o := .cells #[.int .i64 t541, .int .i64 t542] 31 (0, 0)) (bk BK544) k_ hk, Kd.freshB (g := gb564) (o := .cells #[.int .i64 0, .int .i64 0] 31 (0, 0)) (bk BK564) k_ hk⟩) _ (Nat.le_refl _)) (Below.refl _ _) (Nat.le_refl _) (by simp) ?_; (case hd => rfl); (case hg => rfl); (case hr => first | (go_simp; done) | (go_simp; rfl)); (case hp => exact (Reps.c4 (show Kd.FK k25 _ _ (⟨(rd_T25 t533 1).f0, (rd_T25 t533 1).f1, (rd_T25 t533 1).f2, (rd_T25 t533 1).f3⟩ : S25) [.int .i64 ((rd_T25 t533 1).f0), .int .i64 ((rd_T25 t533 1).f1), .int .i64 ((rd_T25 t533 1).f2), .slice A556_3 ((rd_T25 t533 1).f3).length c556_3] from (k25_mkF _ _ (⟨(rd_T25 t533 1).f0, (rd_T25 t533 1).f1, (rd_T25 t533 1).f2, (rd_T25 t533 1).f3⟩ : S25) (Kd.V_reads' (Kd.V_mono (ok' := (fun k_ => some k_ ≠ (.slice (some ad556) t533.length co182 : Value).ownBlock ∧ k_ ≠ gb536 ∧ k_ ≠ gb540 ∧ k_ ≠ gb544 ∧ k_ ≠ gb564)) (HL556_3.out) (fun k_ hk => ⟨hk.1.2, ⟨hk.1.1.1.1.2, ⟨hk.1.1.1.2, ⟨hk.1.1.2, hk.2⟩⟩⟩⟩))).2.1 (Kd.V_F (Kd.V_mono (ok' := (fun k_ => some k_ ≠ (.slice (some ad556) t533.length co182 : Value).ownBlock ∧ k_ ≠ gb536 ∧ k_ ≠ gb540 ∧ k_ ≠ gb544 ∧ k_ ≠ gb564)) (HL556_3.out) (fun k_ hk => ⟨hk.1.2, ⟨hk.1.1.1.1.2, ⟨hk.1.1.1.2, ⟨hk.1.1.2, hk.2⟩⟩⟩⟩))))) (Reps.c4 (show Kd.FK k25 _ _ (⟨(rd_T25 t533 0).f0, (rd_T25 t533 0).f1, (rd_T25 t533 0).f2, (rd_T25 t533 0).f3⟩ : S25) [.int .i64 ((rd_T25 t533 0).f0), .int .i64 ((rd_T25 t533 0).f1), .int .i64 ((rd_T25 t533 0).f2), .slice A557_3 ((rd_T25 t533 0).f3).length c557_3] from (k25_mkF _ _ (⟨(rd_T25 t533 0).f0, (rd_T25 t533 0).f1, (rd_T25 t533 0).f2, (rd_T25 t533 0).f3⟩ : S25) (Kd.V_reads' (Kd.V_mono (ok' := (fun k_ => some k_ ≠ (.slice (some ad556) t533.length co182 : Value).ownBlock ∧ k_ ≠ gb536 ∧ k_ ≠ gb540 ∧ k_ ≠ gb544 ∧ k_ ≠ gb564)) (HL557_3.out) (fun k_ hk => ⟨hk.1.2, ⟨hk.1.1.1.1.2, ⟨hk.1.1.1.2, ⟨hk.1.1.2, hk.2⟩⟩⟩⟩))).2.1 (Kd.V_F (Kd.V_mono (ok' := (fun k_ => some k_ ≠ (.slice (some ad556) t533.length co182 : Value).ownBlock ∧ k_ ≠ gb536 ∧ k_ ≠ gb540 ∧ k_ ≠ gb544 ∧ k_ ≠ gb564)) (HL557_3.out) (fun k_ hk => ⟨hk.1.2, ⟨hk.1.1.1.1.2, ⟨hk.1.1.1.2, ⟨hk.1.1.2, hk.2⟩⟩⟩⟩))))) (Reps.none _ _))))
            intro v559 w198 ho199 hb hg_ hnew_
            have HS4_ := (hb.cell (World.block_lt_of_cell? _ _ (hHeld.2.2.2.2.1))).trans (hHeld.2.2.2.2.1)
            have HS5_ := (hb.cell (World.block_lt_of_cell? _ _ (hHeld.2.2.2.2.2.1))).trans (hHeld.2.2.2.2.2.1)
            have HS6_ := (hb.cell (World.block_lt_of_cell? _ _ (hHeld.2.2.2.2.2.2.1))).trans (hHeld.2.2.2.2.2.2.1)
            have HS7_ := (hb.cell (World.block_lt_of_cell? _ _ (hHeld.2.2.2.2.2.2.2.1))).trans (hHeld.2.2.2.2.2.2.2.1)
            have HS8_ := (hb.cell (World.block_lt_of_cell? _ _ (hHeld.2.2.2.2.2.2.2.2.1))).trans (hHeld.2.2.2.2.2.2.2.2.1)
            have HS9_ := (hb.cell (World.block_lt_of_cell? _ _ (hHeld.2.2.2.2.2.2.2.2.2.1))).trans (hHeld.2.2.2.2.2.2.2.2.2.1)
            have HS10_ := (hb.cell (World.block_lt_of_cell? _ _ (hHeld.2.2.2.2.2.2.2.2.2.2.1))).trans (hHeld.2.2.2.2.2.2.2.2.2.2.1)
            have HS11_ := (hb.cell (World.block_lt_of_cell? _ _ (hHeld.2.2.2.2.2.2.2.2.2.2.2))).trans (hHeld.2.2.2.2.2.2.2.2.2.2.2)
            clear hg_ hnew_
            (first | rw [← Ny558.out] at ho199 | (simp only [Int.reduceToNat] at ho199; rw [← Ny558.out] at ho199))
            have HO560 := Aside0.mk (Kd.N_lower ho199 (below_size (hzs HB)))
            replace HO535 := Aside0.mk (Kd.N_elder' (by (with_reducible repeat (first | apply Kd.N_alloc | apply Kd.N_drewN | apply Kd.N_drew)); exact HO535.out) (Kd.N_base ho199) hb)
            replace HL556_3 := Aside0.mk (Kd.V_elder' (by (with_reducible repeat (first | apply Kd.V_alloc | apply Kd.V_drewN | apply Kd.V_drew)); exact HL556_3.out) (Kd.N_base ho199) hb)
            replace HL557_3 := Aside0.mk (Kd.V_elder' (by (with_reducible repeat (first | apply Kd.V_alloc | apply Kd.V_drewN | apply Kd.V_drew)); exact HL557_3.out) (Kd.N_base ho199) hb)
            replace BK536 := bb (bk BK536) hb
            replace BK540 := bb (bk BK540) hb
            replace BK544 := bb (bk BK544) hb
            replace HR556_3 := Aside0.mk (Kd.C_below (by repeat (first | (with_reducible exact HR556_3.out) | (with_reducible refine Kd.C_alloc ?_ _) | (with_reducible refine Kd.C_drewN ?_ _) | (with_reducible refine Kd.C_drew ?_) | exact HR556_3.out)) hb)
            replace HR557_3 := Aside0.mk (Kd.C_below (by repeat (first | (with_reducible exact HR557_3.out) | (with_reducible refine Kd.C_alloc ?_ _) | (with_reducible refine Kd.C_drewN ?_ _) | (with_reducible refine Kd.C_drew ?_) | exact HR557_3.out)) hb)
            replace BK564 := bb (bk BK564) hb
            replace HB := hbb (hzs HB) hb
            clear hb ho199
            obtain ⟨Ao200, co200, eo200⟩ := Kd.N_slice HO560.out
            (first | subst eo200 | (injection eo200 with f1_ f2_ f3_; have f4_ := f1_.symm; have f5_ := f3_.symm; clear f1_ f2_ f3_; subst f4_; subst f5_))
            refine hK.out _ _ ⟨cw0 BK536, cw1 BK536, (blk_cell BK536.out 2).trans rfl, (blk_cell BK536.out 3).trans rfl, HS4_, HS5_, HS6_, HS7_, HS8_, HS9_, HS10_, HS11_⟩ (fun hHeld => ?_)
            clear hK K
            refine nP ?_
            refine pU 11 68 #[true, true, true, true, true, true, true, true, true, true, true, true, false, false, false, false, true, false, false] HT_ ?_
            refine oN 12 69 #[true, true, true, true, true, true, true, true, true, true, true, true, true, false, false, false, true, false, false] HT_ (fun K hK => ?_)
            refine gS Try.func18 #[.agg #[.int .i64 t530, .int .i64 0, .int .i64 0, .slice Ao200 y558.length co200]] ?_
            with_reducible refine (impl_ExprSpan.calls k t530 0 0 _ _ y558 t561 t562 t563 _ ?side1 ?side2 A177.out).mono ?_
            (case side1 => repeat (first | exact (Kd.N_reads' HO560.out).2.2 | (with_reducible refine Kd.C_alloc ?_ _) | (with_reducible refine Kd.C_drewN ?_ _) | (with_reducible refine Kd.C_drew ?_)))
            (case side2 => exact (Kd.N_reads' HO560.out).2.1)
            rintro e w201 ⟨rfl, hb⟩
            have HS4_ := (hb.cell (World.block_lt_of_cell? _ _ (hHeld.2.2.2.2.1))).trans (hHeld.2.2.2.2.1)
            have HS5_ := (hb.cell (World.block_lt_of_cell? _ _ (hHeld.2.2.2.2.2.1))).trans (hHeld.2.2.2.2.2.1)
            have HS6_ := (hb.cell (World.block_lt_of_cell? _ _ (hHeld.2.2.2.2.2.2.1))).trans (hHeld.2.2.2.2.2.2.1)
            have HS7_ := (hb.cell (World.block_lt_of_cell? _ _ (hHeld.2.2.2.2.2.2.2.1))).trans (hHeld.2.2.2.2.2.2.2.1)
            have HS8_ := (hb.cell (World.block_lt_of_cell? _ _ (hHeld.2.2.2.2.2.2.2.2.1))).trans (hHeld.2.2.2.2.2.2.2.2.1)
            have HS9_ := (hb.cell (World.block_lt_of_cell? _ _ (hHeld.2.2.2.2.2.2.2.2.2.1))).trans (hHeld.2.2.2.2.2.2.2.2.2.1)
            have HS10_ := (hb.cell (World.block_lt_of_cell? _ _ (hHeld.2.2.2.2.2.2.2.2.2.2.1))).trans (hHeld.2.2.2.2.2.2.2.2.2.2.1)
            have HS11_ := (hb.cell (World.block_lt_of_cell? _ _ (hHeld.2.2.2.2.2.2.2.2.2.2.2))).trans (hHeld.2.2.2.2.2.2.2.2.2.2.2)
            refine ⟨_, rfl, ?_⟩
            replace HO535 := Aside0.mk (Kd.N_below (by (with_reducible repeat (first | apply Kd.N_alloc | apply Kd.N_drewN | apply Kd.N_drew)); exact HO535.out) hb)
            replace HL556_3 := Aside0.mk (Kd.V_below (by (with_reducible repeat (first | apply Kd.V_alloc | apply Kd.V_drewN | apply Kd.V_drew)); exact HL556_3.out) hb)
            replace HL557_3 := Aside0.mk (Kd.V_below (by (with_reducible repeat (first | apply Kd.V_alloc | apply Kd.V_drewN | apply Kd.V_drew)); exact HL557_3.out) hb)
            replace HO560 := Aside0.mk (Kd.N_below (by (with_reducible repeat (first | apply Kd.N_alloc | apply Kd.N_drewN | apply Kd.N_drew)); exact HO560.out) hb)
            replace BK536 := bb (bk BK536) hb
            replace BK540 := bb (bk BK540) hb
            replace BK544 := bb (bk BK544) hb
            replace HR556_3 := Aside0.mk (Kd.C_below (by repeat (first | (with_reducible exact HR556_3.out) | (with_reducible refine Kd.C_alloc ?_ _) | (with_reducible refine Kd.C_drewN ?_ _) | (with_reducible refine Kd.C_drew ?_) | exact HR556_3.out)) hb)
            replace HR557_3 := Aside0.mk (Kd.C_below (by repeat (first | (with_reducible exact HR557_3.out) | (with_reducible refine Kd.C_alloc ?_ _) | (with_reducible refine Kd.C_drewN ?_ _) | (with_reducible refine Kd.C_drew ?_) | exact HR557_3.out)) hb)
            replace BK564 := bb (bk BK564) hb
            replace HB := hbb (hzs HB) hb
            clear hb
            refine hK.out _ _ ⟨cw0 BK536, cw1 BK536, (blk_cell BK536.out 2).trans rfl, (blk_cell BK536.out 3).trans rfl, HS4_, HS5_, HS6_, HS7_, HS8_, HS9_, HS10_, HS11_⟩ (fun hHeld => ?_)
            clear hK K
            refine nP ?_
            refine pU 13 56 #[true, true, true, true, true, true, true, true, true, true, true, true, true, true, false, false, true, false, false] HT_ ?_
            refine pU 14 70 #[true, true, true, true, true, true, true, true, true, true, true, true, true, true, true, false, true, false, false] HT_ ?_
            refine pU 15 71 #[true, true, true, true, true, true, true, true, true, true, true, true, true, true, true, true, true, false, false] HT_ ?_
            exact nm (hCont (.slice Ao200 y558.length co200, gb564) _ ⟨hHeld, (by (with_reducible repeat (first | apply Kd.V_alloc | apply Kd.V_drewN | apply Kd.V_drew)); exact Kd.V_mono HL556_3.out (fun _ hk => ⟨hk.1.1.2, ⟨hk.2, ⟨hk.1.1.1.1.1.2, ⟨hk.1.1.1.1.2, ⟨hk.1.1.1.2, hk.1.2⟩⟩⟩⟩⟩)), (by (with_reducible repeat (first | apply Kd.V_alloc | apply Kd.V_drewN | apply Kd.V_drew)); exact Kd.V_mono HL557_3.out (fun _ hk => ⟨hk.1.1.2, ⟨hk.2, ⟨hk.1.1.1.1.1.2, ⟨hk.1.1.1.1.2, ⟨hk.1.1.1.2, hk.1.2⟩⟩⟩⟩⟩)), (by (with_reducible repeat (first | apply Kd.N_alloc | apply Kd.N_drewN | apply Kd.N_drew)); exact Kd.N_mono HO535.out (fun _ hk => ⟨hk.2, ⟨hk.1.1.1.1.2, ⟨hk.1.1.1.2, ⟨hk.1.1.2, hk.1.2⟩⟩⟩⟩)), (by (with_reducible repeat (first | apply Kd.N_alloc | apply Kd.N_drewN | apply Kd.N_drew)); exact HO560.out), (bk BK536), (bk BK540), (bk BK544), (bk BK564), GW564.out, GE564.out, NB536_564.out, NB564_536.out, NB540_564.out, NB564_540.out, NB544_564.out, NB564_544.out, (hzs HB)⟩)
          rintro ⟨v559, gb564⟩ w202 ⟨hS_, h0_, h1_, h2_, h3_, h4_, h5_, h6_, h7_, h8_, h9_, h10_, h11_, h12_, h13_, h14_, h15_, h16_⟩
          have HL556_3 := Aside0.mk h0_
          have HL557_3 := Aside0.mk h1_
          replace HO535 := Aside0.mk h2_
          have HO560 := Aside0.mk h3_
          replace BK536 := Aside0.mk h4_
          replace BK540 := Aside0.mk h5_
          replace BK544 := Aside0.mk h6_
          have BK564 := Aside0.mk h7_
          have GW564 := Aside0.mk h8_
          have GE564 := Aside0.mk h9_
          have NB536_564 := Aside0.mk h10_
          have NB564_536 := Aside0.mk h11_
          have NB540_564 := Aside0.mk h12_
          have NB564_540 := Aside0.mk h13_
          have NB544_564 := Aside0.mk h14_
          have NB564_544 := Aside0.mk h15_
          replace HB := Aside0.mk h16_
          clear h0_ h1_ h2_ h3_ h4_ h5_ h6_ h7_ h8_ h9_ h10_ h11_ h12_ h13_ h14_ h15_ h16_
          have hHeld : w202.cell? ⟨gb536, 0, none⟩ = some (.int .i64 t530) ∧ w202.cell? ⟨gb536, 1, none⟩ = some (.int .i64 t531) ∧ w202.cell? ⟨gb536, 2, none⟩ = some (.int .i64 t532) ∧ w202.cell? ⟨gb536, 3, none⟩ = some (.slice (some ad556) t533.length co182) ∧ w202.cell? ⟨ad556.block, ad556.off + 4, none⟩ = some (.int .i64 ((rd_T25 t533 1).f0)) ∧ w202.cell? ⟨ad556.block, ad556.off + 4 + 1, none⟩ = some (.int .i64 ((rd_T25 t533 1).f1)) ∧ w202.cell? ⟨ad556.block, ad556.off + 4 + 2, none⟩ = some (.int .i64 ((rd_T25 t533 1).f2)) ∧ w202.cell? ⟨ad556.block, ad556.off + 4 + 3, none⟩ = some (.slice A556_3 ((rd_T25 t533 1).f3).length c556_3) ∧ w202.cell? ad556 = some (.int .i64 ((rd_T25 t533 0).f0)) ∧ w202.cell? ⟨ad556.block, ad556.off + 1, none⟩ = some (.int .i64 ((rd_T25 t533 0).f1)) ∧ w202.cell? ⟨ad556.block, ad556.off + 2, none⟩ = some (.int .i64 ((rd_T25 t533 0).f2)) ∧ w202.cell? ⟨ad556.block, ad556.off + 3, none⟩ = some (.slice A557_3 ((rd_T25 t533 0).f3).length c557_3) := hS_
          obtain ⟨Ao203, co203, eo203⟩ := Kd.N_slice HO560.out
          (first | subst eo203 | (injection eo203 with f1_ f2_ f3_; have f4_ := f1_.symm; have f5_ := f3_.symm; clear f1_ f2_ f3_; subst f4_; subst f5_))
          refine norm_ (a' := ?_) ?_ ?_
          rotate_left
          ·simp only [putAll, Act.put, List.setIfInBounds_toArray, List.set_cons_zero, List.set_cons_succ]
           rfl
          refine one_ (i := 17) (N := none) #[true, true, true, true, true, true, true, true, true, true, true, true, true, true, true, true, true, true, false] rfl rfl (one_of HT_.out (by kernel_rfl)) (by decide) (fun K hK => ?_)
          have hs204 : w202.cell? ⟨gb564, 0, none⟩ = some (.int .i64 0) := (blk_cell BK564.out 0).trans rfl
          have hfs204 := blk_frozen BK564.out 0
          have hns204_0 := NB536_564.out
          have hns204_1 := NB540_564.out
          have hns204_2 := NB544_564.out
          have hms204_0 := NB564_536.out
          have hms204_1 := NB564_540.out
          have hms204_2 := NB564_544.out
          have hs205 : w202.cell? ⟨gb564, 1, none⟩ = some (.int .i64 0) := (blk_cell BK564.out 1).trans rfl
          have hfs205 := blk_frozen BK564.out 1
          have hns205_0 := NB536_564.out
          have hns205_1 := NB540_564.out
          have hns205_2 := NB544_564.out
          have hms205_0 := NB564_536.out
          have hms205_1 := NB564_540.out
          have hms205_2 := NB564_544.out
          refine skip_ (w1 := ?_) (by rfl) rfl ?_ ?_
          rotate_left
          ·go_simp
           rfl
          refine hK.out _ _ ⟨((cell_far (p := ⟨gb564, _, none⟩) NB536_564.out _).trans (((cell_far (p := ⟨gb564, _, none⟩) NB536_564.out _).trans (hHeld.1)))), ((cell_far (p := ⟨gb564, _, none⟩) NB536_564.out _).trans (((cell_far (p := ⟨gb564, _, none⟩) NB536_564.out _).trans (hHeld.2.1)))), ((cell_far (p := ⟨gb564, _, none⟩) NB536_564.out _).trans (((cell_far (p := ⟨gb564, _, none⟩) NB536_564.out _).trans (hHeld.2.2.1)))), ((cell_far (p := ⟨gb564, _, none⟩) NB536_564.out _).trans (((cell_far (p := ⟨gb564, _, none⟩) NB536_564.out _).trans (hHeld.2.2.2.1)))), ((cell_far (p := ⟨gb564, _, none⟩) (by first | exact Kd.own_blk (Kd.N_away HO535.out (fun _ hk => hk.2.2.2.2)) | (rw [add_block]; exact Kd.own_blk (Kd.N_away HO535.out (fun _ hk => hk.2.2.2.2))) | (show (Addr.add _ _).block ≠ _; rw [add_block]; exact Kd.own_blk (Kd.N_away HO535.out (fun _ hk => hk.2.2.2.2))) | (dsimp only; exact Kd.own_blk (Kd.N_away HO535.out (fun _ hk => hk.2.2.2.2)))) _).trans (((cell_far (p := ⟨gb564, _, none⟩) (by first | exact Kd.own_blk (Kd.N_away HO535.out (fun _ hk => hk.2.2.2.2)) | (rw [add_block]; exact Kd.own_blk (Kd.N_away HO535.out (fun _ hk => hk.2.2.2.2))) | (show (Addr.add _ _).block ≠ _; rw [add_block]; exact Kd.own_blk (Kd.N_away HO535.out (fun _ hk => hk.2.2.2.2))) | (dsimp only; exact Kd.own_blk (Kd.N_away HO535.out (fun _ hk => hk.2.2.2.2)))) _).trans (hHeld.2.2.2.2.1)))), ((cell_far (p := ⟨gb564, _, none⟩) (by first | exact Kd.own_blk (Kd.N_away HO535.out (fun _ hk => hk.2.2.2.2)) | (rw [add_block]; exact Kd.own_blk (Kd.N_away HO535.out (fun _ hk => hk.2.2.2.2))) | (show (Addr.add _ _).block ≠ _; rw [add_block]; exact Kd.own_blk (Kd.N_away HO535.out (fun _ hk => hk.2.2.2.2))) | (dsimp only; exact Kd.own_blk (Kd.N_away HO535.out (fun _ hk => hk.2.2.2.2)))) _).trans (((cell_far (p := ⟨gb564, _, none⟩) (by first | exact Kd.own_blk (Kd.N_away HO535.out (fun _ hk => hk.2.2.2.2)) | (rw [add_block]; exact Kd.own_blk (Kd.N_away HO535.out (fun _ hk => hk.2.2.2.2))) | (show (Addr.add _ _).block ≠ _; rw [add_block]; exact Kd.own_blk (Kd.N_away HO535.out (fun _ hk => hk.2.2.2.2))) | (dsimp only; exact Kd.own_blk (Kd.N_away HO535.out (fun _ hk => hk.2.2.2.2)))) _).trans (hHeld.2.2.2.2.2.1)))), ((cell_far (p := ⟨gb564, _, none⟩) (by first | exact Kd.own_blk (Kd.N_away HO535.out (fun _ hk => hk.2.2.2.2)) | (rw [add_block]; exact Kd.own_blk (Kd.N_away HO535.out (fun _ hk => hk.2.2.2.2))) | (show (Addr.add _ _).block ≠ _; rw [add_block]; exact Kd.own_blk (Kd.N_away HO535.out (fun _ hk => hk.2.2.2.2))) | (dsimp only; exact Kd.own_blk (Kd.N_away HO535.out (fun _ hk => hk.2.2.2.2)))) _).trans (((cell_far (p := ⟨gb564, _, none⟩) (by first | exact Kd.own_blk (Kd.N_away HO535.out (fun _ hk => hk.2.2.2.2)) | (rw [add_block]; exact Kd.own_blk (Kd.N_away HO535.out (fun _ hk => hk.2.2.2.2))) | (show (Addr.add _ _).block ≠ _; rw [add_block]; exact Kd.own_blk (Kd.N_away HO535.out (fun _ hk => hk.2.2.2.2))) | (dsimp only; exact Kd.own_blk (Kd.N_away HO535.out (fun _ hk => hk.2.2.2.2)))) _).trans (hHeld.2.2.2.2.2.2.1)))), ((cell_far (p := ⟨gb564, _, none⟩) (by first | exact Kd.own_blk (Kd.N_away HO535.out (fun _ hk => hk.2.2.2.2)) | (rw [add_block]; exact Kd.own_blk (Kd.N_away HO535.out (fun _ hk => hk.2.2.2.2))) | (show (Addr.add _ _).block ≠ _; rw [add_block]; exact Kd.own_blk (Kd.N_away HO535.out (fun _ hk => hk.2.2.2.2))) | (dsimp only; exact Kd.own_blk (Kd.N_away HO535.out (fun _ hk => hk.2.2.2.2)))) _).trans (((cell_far (p := ⟨gb564, _, none⟩) (by first | exact Kd.own_blk (Kd.N_away HO535.out (fun _ hk => hk.2.2.2.2)) | (rw [add_block]; exact Kd.own_blk (Kd.N_away HO535.out (fun _ hk => hk.2.2.2.2))) | (show (Addr.add _ _).block ≠ _; rw [add_block]; exact Kd.own_blk (Kd.N_away HO535.out (fun _ hk => hk.2.2.2.2))) | (dsimp only; exact Kd.own_blk (Kd.N_away HO535.out (fun _ hk => hk.2.2.2.2)))) _).trans (hHeld.2.2.2.2.2.2.2.1)))), ((cell_far (p := ⟨gb564, _, none⟩) (by first | exact Kd.own_blk (Kd.N_away HO535.out (fun _ hk => hk.2.2.2.2)) | (rw [add_block]; exact Kd.own_blk (Kd.N_away HO535.out (fun _ hk => hk.2.2.2.2))) | (show (Addr.add _ _).block ≠ _; rw [add_block]; exact Kd.own_blk (Kd.N_away HO535.out (fun _ hk => hk.2.2.2.2))) | (dsimp only; exact Kd.own_blk (Kd.N_away HO535.out (fun _ hk => hk.2.2.2.2)))) _).trans (((cell_far (p := ⟨gb564, _, none⟩) (by first | exact Kd.own_blk (Kd.N_away HO535.out (fun _ hk => hk.2.2.2.2)) | (rw [add_block]; exact Kd.own_blk (Kd.N_away HO535.out (fun _ hk => hk.2.2.2.2))) | (show (Addr.add _ _).block ≠ _; rw [add_block]; exact Kd.own_blk (Kd.N_away HO535.out (fun _ hk => hk.2.2.2.2))) | (dsimp only; exact Kd.own_blk (Kd.N_away HO535.out (fun _ hk => hk.2.2.2.2)))) _).trans (hHeld.2.2.2.2.2.2.2.2.1)))), ((cell_far (p := ⟨gb564, _, none⟩) (by first | exact Kd.own_blk (Kd.N_away HO535.out (fun _ hk => hk.2.2.2.2)) | (rw [add_block]; exact Kd.own_blk (Kd.N_away HO535.out (fun _ hk => hk.2.2.2.2))) | (show (Addr.add _ _).block ≠ _; rw [add_block]; exact Kd.own_blk (Kd.N_away HO535.out (fun _ hk => hk.2.2.2.2))) | (dsimp only; exact Kd.own_blk (Kd.N_away HO535.out (fun _ hk => hk.2.2.2.2)))) _).trans (((cell_far (p := ⟨gb564, _, none⟩) (by first | exact Kd.own_blk (Kd.N_away HO535.out (fun _ hk => hk.2.2.2.2)) | (rw [add_block]; exact Kd.own_blk (Kd.N_away HO535.out (fun _ hk => hk.2.2.2.2))) | (show (Addr.add _ _).block ≠ _; rw [add_block]; exact Kd.own_blk (Kd.N_away HO535.out (fun _ hk => hk.2.2.2.2))) | (dsimp only; exact Kd.own_blk (Kd.N_away HO535.out (fun _ hk => hk.2.2.2.2)))) _).trans (hHeld.2.2.2.2.2.2.2.2.2.1)))), ((cell_far (p := ⟨gb564, _, none⟩) (by first | exact Kd.own_blk (Kd.N_away HO535.out (fun _ hk => hk.2.2.2.2)) | (rw [add_block]; exact Kd.own_blk (Kd.N_away HO535.out (fun _ hk => hk.2.2.2.2))) | (show (Addr.add _ _).block ≠ _; rw [add_block]; exact Kd.own_blk (Kd.N_away HO535.out (fun _ hk => hk.2.2.2.2))) | (dsimp only; exact Kd.own_blk (Kd.N_away HO535.out (fun _ hk => hk.2.2.2.2)))) _).trans (((cell_far (p := ⟨gb564, _, none⟩) (by first | exact Kd.own_blk (Kd.N_away HO535.out (fun _ hk => hk.2.2.2.2)) | (rw [add_block]; exact Kd.own_blk (Kd.N_away HO535.out (fun _ hk => hk.2.2.2.2))) | (show (Addr.add _ _).block ≠ _; rw [add_block]; exact Kd.own_blk (Kd.N_away HO535.out (fun _ hk => hk.2.2.2.2))) | (dsimp only; exact Kd.own_blk (Kd.N_away HO535.out (fun _ hk => hk.2.2.2.2)))) _).trans (hHeld.2.2.2.2.2.2.2.2.2.2.1)))), ((cell_far (p := ⟨gb564, _, none⟩) (by first | exact Kd.own_blk (Kd.N_away HO535.out (fun _ hk => hk.2.2.2.2)) | (rw [add_block]; exact Kd.own_blk (Kd.N_away HO535.out (fun _ hk => hk.2.2.2.2))) | (show (Addr.add _ _).block ≠ _; rw [add_block]; exact Kd.own_blk (Kd.N_away HO535.out (fun _ hk => hk.2.2.2.2))) | (dsimp only; exact Kd.own_blk (Kd.N_away HO535.out (fun _ hk => hk.2.2.2.2)))) _).trans (((cell_far (p := ⟨gb564, _, none⟩) (by first | exact Kd.own_blk (Kd.N_away HO535.out (fun _ hk => hk.2.2.2.2)) | (rw [add_block]; exact Kd.own_blk (Kd.N_away HO535.out (fun _ hk => hk.2.2.2.2))) | (show (Addr.add _ _).block ≠ _; rw [add_block]; exact Kd.own_blk (Kd.N_away HO535.out (fun _ hk => hk.2.2.2.2))) | (dsimp only; exact Kd.own_blk (Kd.N_away HO535.out (fun _ hk => hk.2.2.2.2)))) _).trans (hHeld.2.2.2.2.2.2.2.2.2.2.2))))⟩ (fun hHeld => ?_)
          clear hK K
          refine pU 18 9 #[true, true, true, true, true, true, true, true, true, true, true, true, true, true, true, true, true, true, true] HT_ ?_
          refine done_ (done_of HT_.out (by kernel_rfl)) ?_
          have hnb206 := NB564_536.out
          have hnc206 := NB536_564.out
          have hnb207 := NB564_540.out
          have hnc207 := NB540_564.out
          have hnb208 := NB564_544.out
          have hnc208 := NB544_564.out
          obtain ⟨hcz209_0, hcz209_1, hfz209_0, hfz209_1⟩ := cz2 BK564
          obtain ⟨hcz210_0, hcz210_1, hfz210_0, hfz210_1⟩ := cz2 BK544
          try go_wp2
          go_ret
          exact ⟨by first | rfl | (simp [errW_none, errW_some] <;> rfl) | (simp [*, errW_none, errW_some] <;> rfl), hzs HB⟩
         ·rw [if_neg c178] at H
          exact absurd (Option.some.inj H) (by rw [HRT.out]; decide)
        ·rw [if_neg c176] at H
         exact absurd H (by simp)
       ·rw [if_neg c175] at H
        exact absurd H (by simp)
      ·replace c174 := Bool.eq_false_iff.mpr c174
       subst c174
       rw [if_neg (show ¬ (false = true) by decide)] at H
       by_cases c238 : (t543 == t539) = true
       ·rw [if_pos c238] at H
        have c238b0 : (t543 == t539) = true := c238
        (try (have c238b1 : decide (t543 = t539) = true := by simpa using c238))
        (try (have c238b2 : (t543 == t539) = true := by simpa using c238))
        clear c238
        obtain rfl := Option.some.inj H
        go_enter Try.func13, Try.ntmps13
        go_wp2_with (first | ((with_reducible refine gate_callee (f := 33) rfl ?_); refine gL 14 Try.func33 #[.slice A0 l0.length c0] ?_; (with_reducible refine (spec_DrawExprSpan.calls k _ _ l0 t530 t531 t532 t533 _ ?side1 ?side2 A3.out).mono ?_); (case side1 => repeat (first | exact HR0.out | (with_reducible refine Kd.C_alloc ?_ _) | (with_reducible refine Kd.C_drewN ?_ _) | (with_reducible refine Kd.C_drew ?_))); (case side2 => exact HC0.out); rintro e w239 ⟨v534, rfl, ho0, hb⟩; refine ⟨_, rfl, ?_⟩; have HO535 := Aside0.mk (Kd.N_lower (Kd.N_mono (ok' := fun k_ => True) ho0 (fun k_ hk_ => trivial)) (below_size (hz0 HB))); replace HB := hbb (hz0 HB) hb; (try clear hb); (try clear hb2); (try clear hk); (try clear hi); (try clear ho0)) | ((with_reducible refine gate_dst (N := 3) rfl ?_); refine bE 3 #[.int .i64 0, .int .i64 0, .int .i64 0, .slice none 0 0] 25 ?_; intro gb536 hg w240 hbox hb; have BK536 := Aside0.mk (hbox); have GE536 := gw hg (hz0 HB); have GW536 := GE536; replace HO535 := Aside0.mk (Kd.N_below (Kd.N_elderB (by (with_reducible repeat (first | apply Kd.N_alloc | apply Kd.N_drewN | apply Kd.N_drew)); exact HO535.out) gb536 (Nat.le_of_eq hg.symm)) hb); replace HB := hbb (hz0 HB) hb; clear hb hbox hg; obtain ⟨hcz241_0, hcz241_1, hcz241_2, hcz241_3, hfz241_0, hfz241_1, hfz241_2, hfz241_3⟩ := cz4 BK536; obtain ⟨Ao242, co242, eo242⟩ := Kd.N_slice HO535.out; subst eo242) | ((with_reducible refine gate_callee (f := 31) rfl ?_); refine gL 17 Try.func31 #[.agg #[.int .i64 t530, .int .i64 t531, .int .i64 t532, .slice Ao242 t533.length co242]] ?_; (with_reducible refine (spec_ExprSpan.calls k t530 t531 t532 _ _ t533 t537 t538 t539 _ ?side1 ?side2 A4.out).mono ?_); (case side1 => refine (Kd.N_reads' (e := 25) (base := w.heap.size) (ok := fun k_ => (True ∧ k_ ≠ gb536)) (n := t533.length) (c := co242) ?_).2.2; exact (by (with_reducible repeat (first | apply Kd.N_alloc | apply Kd.N_drewN | apply Kd.N_drew)); exact (Kd.N_mono (Kd.N_far (p := ⟨gb536, 3, none⟩) (Kd.N_far (p := ⟨gb536, 2, none⟩) (Kd.N_far (p := ⟨gb536, 1, none⟩) (Kd.N_far (p := ⟨gb536, 0, none⟩) (Kd.N_mono HO535.out (fun k_ hk => (⟨hk, hk.2⟩ : _ ∧ k_ ≠ gb536))) (fun _ hk => hk.2) (.int .i64 t530)) (fun _ hk => hk.2) (.int .i64 t531)) (fun _ hk => hk.2) (.int .i64 t532)) (fun _ hk => hk.2) (.slice Ao242 t533.length co242)) (fun _ h_ => h_.1)))); (case side2 => exact (Kd.N_reads' HO535.out).2.1); rintro e w243 ⟨rfl, hb⟩; refine ⟨_, rfl, ?_⟩; replace HO535 := Aside0.mk (Kd.N_below (by (with_reducible repeat (first | apply Kd.N_alloc | apply Kd.N_drewN | apply Kd.N_drew)); exact (Kd.N_mono (Kd.N_far (p := ⟨gb536, 3, none⟩) (Kd.N_far (p := ⟨gb536, 2, none⟩) (Kd.N_far (p := ⟨gb536, 1, none⟩) (Kd.N_far (p := ⟨gb536, 0, none⟩) (Kd.N_mono HO535.out (fun k_ hk => (⟨hk, hk.2⟩ : _ ∧ k_ ≠ gb536))) (fun _ hk => hk.2) (.int .i64 t530)) (fun _ hk => hk.2) (.int .i64 t531)) (fun _ hk => hk.2) (.int .i64 t532)) (fun _ hk => hk.2) (.slice Ao242 t533.length co242)) (fun _ h_ => h_.1))) hb); replace BK536 := Aside0.mk (blk_below (g := gb536) (o := .cells #[.int .i64 t530, .int .i64 t531, .int .i64 t532, .slice Ao242 t533.length co242] 25 (0, 0)) (by (with_reducible repeat (first | refine blk_drewN ?_ _ | refine blk_drew ?_ | refine blk_alloc ?_ _)); refine blk_put (cs := #[.int .i64 t530, .int .i64 t531, .int .i64 t532, .slice none 0 0]) ?_ 3 _ rfl; (with_reducible repeat (first | refine blk_drewN ?_ _ | refine blk_drew ?_ | refine blk_alloc ?_ _)); refine blk_put (cs := #[.int .i64 t530, .int .i64 t531, .int .i64 0, .slice none 0 0]) ?_ 2 _ rfl; (with_reducible repeat (first | refine blk_drewN ?_ _ | refine blk_drew ?_ | refine blk_alloc ?_ _)); refine blk_put (cs := #[.int .i64 t530, .int .i64 0, .int .i64 0, .slice none 0 0]) ?_ 1 _ rfl; (with_reducible repeat (first | refine blk_drewN ?_ _ | refine blk_drew ?_ | refine blk_alloc ?_ _)); refine blk_put (cs := #[.int .i64 0, .int .i64 0, .int .i64 0, .slice none 0 0]) ?_ 0 _ rfl; (with_reducible repeat (first | refine blk_drewN ?_ _ | refine blk_drew ?_ | refine blk_alloc ?_ _)); exact BK536.out) hb); replace HB := hbb (hzs HB) hb; clear hb) | ((with_reducible refine gate_dst (N := 4) rfl ?_); refine bE 4 #[.int .i64 0, .int .i64 0] 31 ?_; intro gb540 hg w244 hbox hb; have BK540 := Aside0.mk (hbox); have GE540 := gw hg (hzs HB); have GW540 := GE540; have NB536_540 := nl hg (bk BK536); have NB540_536 := ng hg (bk BK536); replace HO535 := Aside0.mk (Kd.N_below (Kd.N_elderB (by (with_reducible repeat (first | apply Kd.N_alloc | apply Kd.N_drewN | apply Kd.N_drew)); exact HO535.out) gb540 (Nat.le_of_eq hg.symm)) hb); replace BK536 := bb (bk BK536) hb; replace HB := hbb (hzs HB) hb; clear hb hbox hg; have hnb245 := NB540_536.out; have hnc245 := NB536_540.out; obtain ⟨hcz246_0, hcz246_1, hfz246_0, hfz246_1⟩ := cz2 BK540; obtain ⟨hcz247_0, hcz247_1, hcz247_2, hcz247_3, hfz247_0, hfz247_1, hfz247_2, hfz247_3⟩ := cz4 BK536) | ((with_reducible refine gate_callee (f := 18) rfl ?_); refine gL 22 Try.func18 #[.agg #[.int .i64 t530, .int .i64 t531, .int .i64 t532, .slice Ao242 t533.length co242]] ?_; (with_reducible refine (impl_ExprSpan.calls k t530 t531 t532 _ _ t533 t541 t542 t543 _ ?side1 ?side2 A5.out).mono ?_); (case side1 => refine (Kd.N_reads' (e := 25) (base := w.heap.size) (ok := fun k_ => ((True ∧ k_ ≠ gb536) ∧ k_ ≠ gb540)) (n := t533.length) (c := co242) ?_).2.2; exact (by (with_reducible repeat (first | apply Kd.N_alloc | apply Kd.N_drewN | apply Kd.N_drew)); exact (Kd.N_mono (Kd.N_far (p := ⟨gb540, 1, none⟩) (Kd.N_far (p := ⟨gb540, 0, none⟩) (Kd.N_mono HO535.out (fun k_ hk => (⟨hk, hk.2⟩ : _ ∧ k_ ≠ gb540))) (fun _ hk => hk.2) (.int .i64 t537)) (fun _ hk => hk.2) (.int .i64 t538)) (fun _ h_ => h_.1)))); (case side2 => exact (Kd.N_reads' HO535.out).2.1); rintro e w248 ⟨rfl, hb⟩; refine ⟨_, rfl, ?_⟩; replace HO535 := Aside0.mk (Kd.N_below (by (with_reducible repeat (first | apply Kd.N_alloc | apply Kd.N_drewN | apply Kd.N_drew)); exact (Kd.N_mono (Kd.N_far (p := ⟨gb540, 1, none⟩) (Kd.N_far (p := ⟨gb540, 0, none⟩) (Kd.N_mono HO535.out (fun k_ hk => (⟨hk, hk.2⟩ : _ ∧ k_ ≠ gb540))) (fun _ hk => hk.2) (.int .i64 t537)) (fun _ hk => hk.2) (.int .i64 t538)) (fun _ h_ => h_.1))) hb); replace BK536 := bb (bk1 BK536 NB536_540) hb; replace BK540 := bb (o := .cells #[.int .i64 t537, .int .i64 t538] 31 (0, 0)) (bkp BK540) hb; replace HB := hbb (hzs HB) hb; clear hb) | ((with_reducible refine gate_dst (N := 6) rfl ?_); refine bE 6 #[.int .i64 0, .int .i64 0] 31 ?_; intro gb544 hg w249 hbox hb; have BK544 := Aside0.mk (hbox); have GE544 := gw hg (hzs HB); have GW544 := GE544; have NB536_544 := nl hg (bk BK536); have NB544_536 := ng hg (bk BK536); have NB540_544 := nl hg (bk BK540); have NB544_540 := ng hg (bk BK540); replace HO535 := Aside0.mk (Kd.N_below (Kd.N_elderB (by (with_reducible repeat (first | apply Kd.N_alloc | apply Kd.N_drewN | apply Kd.N_drew)); exact HO535.out) gb544 (Nat.le_of_eq hg.symm)) hb); replace BK536 := bb (bk BK536) hb; replace BK540 := bb (bk BK540) hb; replace HB := hbb (hzs HB) hb; clear hb hbox hg; have hnb250 := NB544_536.out; have hnc250 := NB536_544.out; have hnb251 := NB544_540.out; have hnc251 := NB540_544.out; obtain ⟨hcz252_0, hcz252_1, hfz252_0, hfz252_1⟩ := cz2 BK544; obtain ⟨hcz253_0, hcz253_1, hfz253_0, hfz253_1⟩ := cz2 BK540; obtain ⟨hcz254_0, hcz254_1, hcz254_2, hcz254_3, hfz254_0, hfz254_1, hfz254_2, hfz254_3⟩ := cz4 BK536) | (go_at_call 21; (with_reducible refine (spec_ExprOk.calls k t530 t531 t532 _ _ t533 false _ ?side1 ?side2 A173.out).mono ?_); (case side1 => refine (Kd.N_reads' (e := 25) (base := w.heap.size) (ok := fun k_ => (((True ∧ k_ ≠ gb536) ∧ k_ ≠ gb540) ∧ k_ ≠ gb544)) (n := t533.length) (c := co242) ?_).2.2; exact (by (with_reducible repeat (first | apply Kd.N_alloc | apply Kd.N_drewN | apply Kd.N_drew)); exact (Kd.N_mono (Kd.N_far (p := ⟨gb544, 1, none⟩) (Kd.N_far (p := ⟨gb544, 0, none⟩) (Kd.N_mono HO535.out (fun k_ hk => (⟨hk, hk.2⟩ : _ ∧ k_ ≠ gb544))) (fun _ hk => hk.2) (.int .i64 t541)) (fun _ hk => hk.2) (.int .i64 t542)) (fun _ h_ => h_.1)))); (case side2 => exact (Kd.N_reads' HO535.out).2.1); rintro e w255 ⟨rfl, hb⟩; replace HO535 := Aside0.mk (Kd.N_below (by (with_reducible repeat (first | apply Kd.N_alloc | apply Kd.N_drewN | apply Kd.N_drew)); exact (Kd.N_mono (Kd.N_far (p := ⟨gb544, 1, none⟩) (Kd.N_far (p := ⟨gb544, 0, none⟩) (Kd.N_mono HO535.out (fun k_ hk => (⟨hk, hk.2⟩ : _ ∧ k_ ≠ gb544))) (fun _ hk => hk.2) (.int .i64 t541)) (fun _ hk => hk.2) (.int .i64 t542)) (fun _ h_ => h_.1))) hb); replace BK536 := bb (bk1 BK536 NB536_544) hb; replace BK540 := bb (bk1 BK540 NB540_544) hb; replace BK544 := bb (o := .cells #[.int .i64 t541, .int .i64 t542] 31 (0, 0)) (bkp BK544) hb; replace HB := hbb (hzs HB) hb; clear hb; obtain ⟨hcz256_0, hcz256_1, hfz256_0, hfz256_1⟩ := cz2 BK544; obtain ⟨hcz257_0, hcz257_1, hfz257_0, hfz257_1⟩ := cz2 BK540))
        go_ret
        exact ⟨by first | rfl | (simp [errW_none, errW_some] <;> rfl) | (simp [*, errW_none, errW_some] <;> rfl), hzs HB⟩
       ·rw [if_neg c238] at H
        exact absurd (Option.some.inj H) (by rw [HRT.out]; decide)
     ·rw [if_neg c172] at H
      have c172b0 : (t530 == 7) = false := beq_eq_false_iff_ne.mpr c172
      have c172b1 : (t530 != 7) = true := bne_iff_ne.mpr c172
      by_cases c275 : (t543 == t539) = true
      ·rw [if_pos c275] at H
       have c275b0 : (t543 == t539) = true := c275
       (try (have c275b1 : decide (t543 = t539) = true := by simpa using c275))
       (try (have c275b2 : (t543 == t539) = true := by simpa using c275))
       clear c275
       obtain rfl := Option.some.inj H
       go_enter Try.func13, Try.ntmps13
       go_wp2_with (first | ((with_reducible refine gate_callee (f := 33) rfl ?_); refine gL 14 Try.func33 #[.slice A0 l0.length c0] ?_; (with_reducible refine (spec_DrawExprSpan.calls k _ _ l0 t530 t531 t532 t533 _ ?side1 ?side2 A3.out).mono ?_); (case side1 => repeat (first | exact HR0.out | (with_reducible refine Kd.C_alloc ?_ _) | (with_reducible refine Kd.C_drewN ?_ _) | (with_reducible refine Kd.C_drew ?_))); (case side2 => exact HC0.out); rintro e w276 ⟨v534, rfl, ho0, hb⟩; refine ⟨_, rfl, ?_⟩; have HO535 := Aside0.mk (Kd.N_lower (Kd.N_mono (ok' := fun k_ => True) ho0 (fun k_ hk_ => trivial)) (below_size (hz0 HB))); replace HB := hbb (hz0 HB) hb; (try clear hb); (try clear hb2); (try clear hk); (try clear hi); (try clear ho0)) | ((with_reducible refine gate_dst (N := 3) rfl ?_); refine bE 3 #[.int .i64 0, .int .i64 0, .int .i64 0, .slice none 0 0] 25 ?_; intro gb536 hg w277 hbox hb; have BK536 := Aside0.mk (hbox); have GE536 := gw hg (hz0 HB); have GW536 := GE536; replace HO535 := Aside0.mk (Kd.N_below (Kd.N_elderB (by (with_reducible repeat (first | apply Kd.N_alloc | apply Kd.N_drewN | apply Kd.N_drew)); exact HO535.out) gb536 (Nat.le_of_eq hg.symm)) hb); replace HB := hbb (hz0 HB) hb; clear hb hbox hg; obtain ⟨hcz278_0, hcz278_1, hcz278_2, hcz278_3, hfz278_0, hfz278_1, hfz278_2, hfz278_3⟩ := cz4 BK536; obtain ⟨Ao279, co279, eo279⟩ := Kd.N_slice HO535.out; subst eo279) | ((with_reducible refine gate_callee (f := 31) rfl ?_); refine gL 17 Try.func31 #[.agg #[.int .i64 t530, .int .i64 t531, .int .i64 t532, .slice Ao279 t533.length co279]] ?_; (with_reducible refine (spec_ExprSpan.calls k t530 t531 t532 _ _ t533 t537 t538 t539 _ ?side1 ?side2 A4.out).mono ?_); (case side1 => refine (Kd.N_reads' (e := 25) (base := w.heap.size) (ok := fun k_ => (True ∧ k_ ≠ gb536)) (n := t533.length) (c := co279) ?_).2.2; exact (by (with_reducible repeat (first | apply Kd.N_alloc | apply Kd.N_drewN | apply Kd.N_drew)); exact (Kd.N_mono (Kd.N_far (p := ⟨gb536, 3, none⟩) (Kd.N_far (p := ⟨gb536, 2, none⟩) (Kd.N_far (p := ⟨gb536, 1, none⟩) (Kd.N_far (p := ⟨gb536, 0, none⟩) (Kd.N_mono HO535.out (fun k_ hk => (⟨hk, hk.2⟩ : _ ∧ k_ ≠ gb536))) (fun _ hk => hk.2) (.int .i64 t530)) (fun _ hk => hk.2) (.int .i64 t531)) (fun _ hk => hk.2) (.int .i64 t532)) (fun _ hk => hk.2) (.slice Ao279 t533.length co279)) (fun _ h_ => h_.1)))); (case side2 => exact (Kd.N_reads' HO535.out).2.1); rintro e w280 ⟨rfl, hb⟩; refine ⟨_, rfl, ?_⟩; replace HO535 := Aside0.mk (Kd.N_below (by (with_reducible repeat (first | apply Kd.N_alloc | apply Kd.N_drewN | apply Kd.N_drew)); exact (Kd.N_mono (Kd.N_far (p := ⟨gb536, 3, none⟩) (Kd.N_far (p := ⟨gb536, 2, none⟩) (Kd.N_far (p := ⟨gb536, 1, none⟩) (Kd.N_far (p := ⟨gb536, 0, none⟩) (Kd.N_mono HO535.out (fun k_ hk => (⟨hk, hk.2⟩ : _ ∧ k_ ≠ gb536))) (fun _ hk => hk.2) (.int .i64 t530)) (fun _ hk => hk.2) (.int .i64 t531)) (fun _ hk => hk.2) (.int .i64 t532)) (fun _ hk => hk.2) (.slice Ao279 t533.length co279)) (fun _ h_ => h_.1))) hb); replace BK536 := Aside0.mk (blk_below (g := gb536) (o := .cells #[.int .i64 t530, .int .i64 t531, .int .i64 t532, .slice Ao279 t533.length co279] 25 (0, 0)) (by (with_reducible repeat (first | refine blk_drewN ?_ _ | refine blk_drew ?_ | refine blk_alloc ?_ _)); refine blk_put (cs := #[.int .i64 t530, .int .i64 t531, .int .i64 t532, .slice none 0 0]) ?_ 3 _ rfl; (with_reducible repeat (first | refine blk_drewN ?_ _ | refine blk_drew ?_ | refine blk_alloc ?_ _)); refine blk_put (cs := #[.int .i64 t530, .int .i64 t531, .int .i64 0, .slice none 0 0]) ?_ 2 _ rfl; (with_reducible repeat (first | refine blk_drewN ?_ _ | refine blk_drew ?_ | refine blk_alloc ?_ _)); refine blk_put (cs := #[.int .i64 t530, .int .i64 0, .int .i64 0, .slice none 0 0]) ?_ 1 _ rfl; (with_reducible repeat (first | refine blk_drewN ?_ _ | refine blk_drew ?_ | refine blk_alloc ?_ _)); refine blk_put (cs := #[.int .i64 0, .int .i64 0, .int .i64 0, .slice none 0 0]) ?_ 0 _ rfl; (with_reducible repeat (first | refine blk_drewN ?_ _ | refine blk_drew ?_ | refine blk_alloc ?_ _)); exact BK536.out) hb); replace HB := hbb (hzs HB) hb; clear hb) | ((with_reducible refine gate_dst (N := 4) rfl ?_); refine bE 4 #[.int .i64 0, .int .i64 0] 31 ?_; intro gb540 hg w281 hbox hb; have BK540 := Aside0.mk (hbox); have GE540 := gw hg (hzs HB); have GW540 := GE540; have NB536_540 := nl hg (bk BK536); have NB540_536 := ng hg (bk BK536); replace HO535 := Aside0.mk (Kd.N_below (Kd.N_elderB (by (with_reducible repeat (first | apply Kd.N_alloc | apply Kd.N_drewN | apply Kd.N_drew)); exact HO535.out) gb540 (Nat.le_of_eq hg.symm)) hb); replace BK536 := bb (bk BK536) hb; replace HB := hbb (hzs HB) hb; clear hb hbox hg; have hnb282 := NB540_536.out; have hnc282 := NB536_540.out; obtain ⟨hcz283_0, hcz283_1, hfz283_0, hfz283_1⟩ := cz2 BK540; obtain ⟨hcz284_0, hcz284_1, hcz284_2, hcz284_3, hfz284_0, hfz284_1, hfz284_2, hfz284_3⟩ := cz4 BK536) | ((with_reducible refine gate_callee (f := 18) rfl ?_); refine gL 22 Try.func18 #[.agg #[.int .i64 t530, .int .i64 t531, .int .i64 t532, .slice Ao279 t533.length co279]] ?_; (with_reducible refine (impl_ExprSpan.calls k t530 t531 t532 _ _ t533 t541 t542 t543 _ ?side1 ?side2 A5.out).mono ?_); (case side1 => refine (Kd.N_reads' (e := 25) (base := w.heap.size) (ok := fun k_ => ((True ∧ k_ ≠ gb536) ∧ k_ ≠ gb540)) (n := t533.length) (c := co279) ?_).2.2; exact (by (with_reducible repeat (first | apply Kd.N_alloc | apply Kd.N_drewN | apply Kd.N_drew)); exact (Kd.N_mono (Kd.N_far (p := ⟨gb540, 1, none⟩) (Kd.N_far (p := ⟨gb540, 0, none⟩) (Kd.N_mono HO535.out (fun k_ hk => (⟨hk, hk.2⟩ : _ ∧ k_ ≠ gb540))) (fun _ hk => hk.2) (.int .i64 t537)) (fun _ hk => hk.2) (.int .i64 t538)) (fun _ h_ => h_.1)))); (case side2 => exact (Kd.N_reads' HO535.out).2.1); rintro e w285 ⟨rfl, hb⟩; refine ⟨_, rfl, ?_⟩; replace HO535 := Aside0.mk (Kd.N_below (by (with_reducible repeat (first | apply Kd.N_alloc | apply Kd.N_drewN | apply Kd.N_drew)); exact (Kd.N_mono (Kd.N_far (p := ⟨gb540, 1, none⟩) (Kd.N_far (p := ⟨gb540, 0, none⟩) (Kd.N_mono HO535.out (fun k_ hk => (⟨hk, hk.2⟩ : _ ∧ k_ ≠ gb540))) (fun _ hk => hk.2) (.int .i64 t537)) (fun _ hk => hk.2) (.int .i64 t538)) (fun _ h_ => h_.1))) hb); replace BK536 := bb (bk1 BK536 NB536_540) hb; replace BK540 := bb (o := .cells #[.int .i64 t537, .int .i64 t538] 31 (0, 0)) (bkp BK540) hb; replace HB := hbb (hzs HB) hb; clear hb) | ((with_reducible refine gate_dst (N := 6) rfl ?_); refine bE 6 #[.int .i64 0, .int .i64 0] 31 ?_; intro gb544 hg w286 hbox hb; have BK544 := Aside0.mk (hbox); have GE544 := gw hg (hzs HB); have GW544 := GE544; have NB536_544 := nl hg (bk BK536); have NB544_536 := ng hg (bk BK536); have NB540_544 := nl hg (bk BK540); have NB544_540 := ng hg (bk BK540); replace HO535 := Aside0.mk (Kd.N_below (Kd.N_elderB (by (with_reducible repeat (first | apply Kd.N_alloc | apply Kd.N_drewN | apply Kd.N_drew)); exact HO535.out) gb544 (Nat.le_of_eq hg.symm)) hb); replace BK536 := bb (bk BK536) hb; replace BK540 := bb (bk BK540) hb; replace HB := hbb (hzs HB) hb; clear hb hbox hg; have hnb287 := NB544_536.out; have hnc287 := NB536_544.out; have hnb288 := NB544_540.out; have hnc288 := NB540_544.out; obtain ⟨hcz289_0, hcz289_1, hfz289_0, hfz289_1⟩ := cz2 BK544; obtain ⟨hcz290_0, hcz290_1, hfz290_0, hfz290_1⟩ := cz2 BK540; obtain ⟨hcz291_0, hcz291_1, hcz291_2, hcz291_3, hfz291_0, hfz291_1, hfz291_2, hfz291_3⟩ := cz4 BK536))
       go_ret
       exact ⟨by first | rfl | (simp [errW_none, errW_some] <;> rfl) | (simp [*, errW_none, errW_some] <;> rfl), hzs HB⟩
      ·rw [if_neg c275] at H
       exact absurd (Option.some.inj H) (by rw [HRT.out]; decide)
theorem drawExprSpan_tells {l : List Int} (hl : Bytes l) {k : Nat} (hk : 1400 ≤ k) : ∃ f0 f1 f2 m, spec_DrawExprSpan.f k l = some (f0, f1, f2, m) ∧ nodes ⟨f0, f1, f2, m⟩ ≤ 63 := by
 unfold spec_DrawExprSpan.f
 obtain ⟨b, h1, h2, h3⟩ := open_tells hl
 rw [h1]; simp only [Option.bind_some]
 obtain ⟨g0, g1, g2, m, p, q1, q2, q3, q4⟩ := bent_tells h2 h3 false (show (0 : Int) ≤ 0 by omega) (by omega) (k := k) (by omega)
 rw [q1]; simp only [Option.bind_some]
 exact ⟨_, _, _, _, rfl, q2⟩
theorem swap_op {f0 f1 f2 : Int} (h : f0 = 5 ∨ f0 = 7) (s t : Int × Int) : opM f0 f1 f2 s t = opM f0 0 0 t s := by
 unfold opM
 rw [if_neg (show ¬ f0 = 1 by omega), if_neg (show ¬ f0 = 1 by omega), if_neg (show ¬ f0 = 2 by omega), if_neg (show ¬ f0 = 2 by omega), if_neg (show ¬ f0 = 3 by omega), if_neg (show ¬ f0 = 3 by omega), if_neg (show ¬ f0 = 4 by omega), if_neg (show ¬ f0 = 4 by omega)]
 rcases h with h | h
 ·rw [if_pos h, if_pos h]
  unfold addR
  rw [Int.add_comm s.1, Int.add_comm s.2]
 ·rw [if_neg (show ¬ f0 = 5 by omega), if_neg (show ¬ f0 = 5 by omega), if_neg (show ¬ f0 = 6 by omega), if_neg (show ¬ f0 = 6 by omega), if_pos h, if_pos h]
  unfold mulR
  rw [mulM_comm]
theorem swap_span {f0 f1 f2 : Int} (h : f0 = 5 ∨ f0 = 7) (x y : S25) : spanM ⟨f0, f1, f2, [x, y]⟩ = spanM ⟨f0, 0, 0, [y, x]⟩ := by
 rw [span_2, span_2]
 by_cases c : (spanM x).2.2 = true
 ·by_cases d : (spanM y).2.2 = true
  ·rw [if_pos c, if_pos d, if_pos d, if_pos c, swap_op h]
  ·rw [if_pos c, if_neg d, if_neg d]
 ·by_cases d : (spanM y).2.2 = true
  ·rw [if_neg c, if_pos d, if_neg c]
  ·rw [if_neg c, if_neg d]
theorem swap_kids {f0 f1 f2 : Int} {m : List S25} (h : f0 = 5 ∨ f0 = 7) (c : sizeM ⟨f0, f1, f2, m⟩ ≤ 15) : ∃ x y, m = [x, y] ∧ sizeM ⟨f0, 0, 0, [y, x]⟩ = sizeM ⟨f0, f1, f2, m⟩ := by
 obtain ⟨hd, hz⟩ := ok_parts c
 have k2 : kidsN f0 = 2 := by unfold kidsN; rw [if_neg (by omega), if_neg (by omega), if_pos (by omega)]
 have hn := hd.1
 rw [k2] at hn
 match m, hn, hz with
 | [x, y], hn, hz =>
  refine ⟨x, y, rfl, ?_⟩
  have hd2 : headOk f0 0 0 ([y, x] : List S25).length := by
   refine ⟨by rw [k2]; rfl, ?_⟩
   unfold fineM
   rw [if_neg (by omega), if_neg (by omega)]
   exact ⟨rfl, rfl⟩
  rw [hz, sizeM, if_pos hd2, sizeL, sizeL, sizeL, sizeL, sizeL, sizeL]
  omega
theorem swap_expr {f0 f1 f2 : Int} {x y : S25} (h : f0 = 5 ∨ f0 = 7) (e : sizeM ⟨f0, 0, 0, [y, x]⟩ = sizeM ⟨f0, f1, f2, [x, y]⟩) : exprR ⟨f0, 0, 0, [y, x]⟩ = exprR ⟨f0, f1, f2, [x, y]⟩ := by
 unfold exprR
 rw [e, swap_span (f1 := f1) (f2 := f2) h]
theorem FnExprSwap_pure {l0 : List Int} (hl : Bytes l0) {k : Nat} (hk : 3000 ≤ k) : laws_FnExprSwap.f k l0 = some true := by
 unfold laws_FnExprSwap.f
 by_cases h : (l0.length : Int) > 1048576
 ·rw [if_pos h]
 rw [if_neg h]
 obtain ⟨f0, f1, f2, m, q, hn⟩ := drawExprSpan_tells hl (k := k) (by omega)
 rw [q]; simp only [Option.bind_some]
 have e1 := ExprSpan_is (e := ⟨f0, f1, f2, m⟩) (by omega) (k := k) (by omega)
 dsimp only at e1
 have e0 := ExprOk_is (e := ⟨f0, f1, f2, m⟩) (by omega) (k := k) (by omega)
 dsimp only at e0
 rw [e1.1, e1.2]
 simp only [Option.bind_some, bne_self_eq_false, Bool.false_eq_true, if_false, beq_self_eq_true, Bool.not_true, Bool.or_self, if_true, Bool.and_self]
 rw [e0.2]
 simp only [Option.bind_some]
 have main : (f0 = 5 ∨ f0 = 7) → sizeM ⟨f0, f1, f2, m⟩ ≤ 15 → 1 < (m.length : Int) ∧ 0 < (m.length : Int) ∧ impl_ExprSpan.f k f0 0 0 [⟨(rd_T25 m 1).f0, (rd_T25 m 1).f1, (rd_T25 m 1).f2, (rd_T25 m 1).f3⟩, ⟨(rd_T25 m 0).f0, (rd_T25 m 0).f1, (rd_T25 m 0).f2, (rd_T25 m 0).f3⟩] = some (exprR ⟨f0, f1, f2, m⟩) := by
  intro g c
  obtain ⟨x, y, rfl, e⟩ := swap_kids g c
  refine ⟨by simp, by simp, ?_⟩
  have nn : nodes ⟨f0, 0, 0, [y, x]⟩ = nodes ⟨f0, f1, f2, [x, y]⟩ := by
   rw [nodes, nodes, nodesL, nodesL, nodesL, nodesL, nodesL, nodesL]; omega
  have e2 := ExprSpan_is (e := ⟨f0, 0, 0, [y, x]⟩) (by rw [nn]; omega) (k := k) (by rw [nn]; omega)
  rw [← swap_expr g e]
  obtain ⟨x0, x1, x2, x3⟩ := x
  obtain ⟨y0, y1, y2, y3⟩ := y
  exact e2.1
 by_cases c : sizeM ⟨f0, f1, f2, m⟩ ≤ 15
 ·rw [decide_eq_true c]
  by_cases g5 : f0 = 5
  ·obtain ⟨m1, m2, m3⟩ := main (.inl g5) c
   rw [if_pos g5, if_pos rfl, if_pos m1, if_pos m2, m3]
   simp
  ·rw [if_neg g5]
   by_cases g7 : f0 = 7
   ·obtain ⟨m1, m2, m3⟩ := main (.inr g7) c
    rw [if_pos g7, if_pos rfl, if_pos m1, if_pos m2, m3]
    simp
   ·rw [if_neg g7]
 ·rw [decide_eq_false c]
  simp
theorem FnExprSwap_true (A0 : Option Addr) (c0 : Nat) (l0 : List Int) (w : World) (hr0 : Kd.C (Kd.int .u8) w A0 l0.length l0) (hc0 : l0.length ≤ c0) (hw0 : ∀ x ∈ l0, (Lit.int .u8 x).wf = true) :
  Calls Try.prog 13 #[.slice A0 l0.length c0] w fun e w' => e = .returned (.bool true) ∧ Below w.heap.size w w' :=
 laws_FnExprSwap.calls 3000 A0 c0 l0 true w hr0 hc0 (FnExprSwap_pure (bytes_of hw0) (by omega)) ⟨rfl⟩

end Go.Proofs.Ytlodpfddimeffaa.M
