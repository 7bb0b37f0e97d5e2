import Derived.Test.YtlodpfddimeffaaM0
import Derived.Test.YtlodpfddimeffaaDa
import Derived.Test.YtlodpfddimeffaaNf
namespace Go.Proofs.Ytlodpfddimeffaa.M
open Go.RowKit Go.Proofs.YtlodpfddimeffaaW.PrintWords Go.Proofs.YtlodpfddimeffaaW.PrintLast Go.Proofs.YtlodpfddimeffaaW.PrintMore
attribute [local go_sem] max2_int min2_int max_two min_two max_three min_three max_four min_four
attribute [local go_sem high] eqA31
attribute [local go_sem] fld31_0 fld31_1 fld25_0 fld25_1 fld25_2 fld25_3
set_option linter.unusedVariables false
set_option linter.unusedSimpArgs false

/-! ### spec_l71Expr: function 55 -/
mutual
def spec_l71Expr.j0 : Nat → Int → Bool → Bool → List Int → Int → Option (Int × Int × Int × (List (S25)) × Int)
 | 0, _, _, _, _, _ => none
 | k + 1, x1, x2, x17, x1000, x1001 => if x17 = true then (if x2 = true then (spec_l71Expr.j1 k false x1000 x1001) else ((spec_l6Rd_pick.f k x1000 x1001 4).bind fun bt373 => (spec_l71Expr.j1 k (bt373.1 == 0) x1000 bt373.2))) else ((some (([5, 6, 7, 7, 8, 2, 3] : List Int) : List Int)).bind fun y381 => ((spec_l6Rd_pick.f k x1000 x1001 7).bind fun bt384 => (if 0 ≤ bt384.1 then (if bt384.1 < (y381.length : Int) then (if x2 = true then (spec_l71Expr.j2 k x1 x2 (rd y381 bt384.1) ((rd y381 bt384.1) == 3) x1000 bt384.2) else (spec_l71Expr.j2 k x1 x2 (rd y381 bt384.1) false x1000 bt384.2)) else (none)) else (none))))
def spec_l71Expr.j1 : Nat → Bool → List Int → Int → Option (Int × Int × Int × (List (S25)) × Int)
 | 0, _, _, _ => none
 | k + 1, x24, x1000, x1001 => if x24 = true then ((spec_l71Big.f k x1000 x1001 129600000).bind fun bt375 => (some (4, bt375.1, 0, ([] : List (S25)), bt375.2))) else ((spec_l6Rd_pick.f k x1000 x1001 20).bind fun bt377 => ((spec_l6Rd_pick.f k x1000 bt377.2 (wrap64 ((wrap64 (2 * (wrap64 (1 + bt377.1)))) + 1))).bind fun bt379 => (some (1, wrap64 (bt379.1 - (wrap64 (1 + bt377.1))), wrap64 (1 + bt377.1), ([] : List (S25)), bt379.2))))
def spec_l71Expr.j2 : Nat → Int → Bool → Int → Bool → List Int → Int → Option (Int × Int × Int × (List (S25)) × Int)
 | 0, _, _, _, _, _, _ => none
 | k + 1, x1, x2, x8, x49, x1000, x1001 => if x49 = true then (spec_l71Expr.j3 k x1 x2 7 x1000 x1001) else (spec_l71Expr.j3 k x1 x2 x8 x1000 x1001)
def spec_l71Expr.j3 : Nat → Int → Bool → Int → List Int → Int → Option (Int × Int × Int × (List (S25)) × Int)
 | 0, _, _, _, _, _ => none
 | k + 1, x1, x2, x8, x1000, x1001 => spec_l71Expr.l0 k x1 x2 x8 0 x1000 x1001 x8 0 0 ([] : List (S25))
def spec_l71Expr.l0 : Nat → Int → Bool → Int → Int → List Int → Int → Int → Int → Int → List (S25) → Option (Int × Int × Int × (List (S25)) × Int)
 | 0, _, _, _, _, _, _, _, _, _, _ => none
 | k + 1, x1, x2, x8, x10, x1000, x1001, x388000, x388001, x388002, x388003 => (spec_l31Kids.f x8).bind fun t388 => (if x10 < t388 then ((spec_l71Expr.f k x1000 x1001 (wrap64 (x1 - 1)) x2).bind fun bt389 => (if x388003.length < 2932031007402 then (spec_l71Expr.l0 k x1 x2 x8 (wrap64 (x10 + 1)) x1000 bt389.2.2.2.2 x388000 x388001 x388002 (x388003 ++ [(⟨bt389.1, bt389.2.1, bt389.2.2.1, bt389.2.2.2.1⟩ : S25)])) else (none))) else (some (x388000, x388001, x388002, x388003, x1001)))
def spec_l71Expr.f : Nat → List Int → Int → Int → Bool → Option (Int × Int × Int × (List (S25)) × Int)
 | 0, _, _, _, _ => none
 | k + 1, s0_0, s0_1, a1, a2 => if a1 < 2 then (spec_l71Expr.j0 k a1 a2 true s0_0 s0_1) else ((spec_l6Rd_pick.f k s0_0 s0_1 4).bind fun bt371 => (spec_l71Expr.j0 k a1 a2 (bt371.1 == 0) s0_0 bt371.2))
end
def spec_l71Expr.T13 : Bool × List (List Nat × List Nat) := (true, [([], []), ([0], [0]), ([], []), ([], []), ([3], [3]), ([], []), ([2, 4, 5], [2, 4, 5]), ([6], [6]), ([1, 7, 6], [1, 7]), ([0, 1, 2, 3, 4, 5, 6, 7, 8], []), ([9, 8, 8, 0, 1, 2, 3, 4, 5, 6, 7, 8], [8, 9])])
def spec_l71Expr.B13 : List Nat := [0, 1, 0, 0, 8, 0, 60, 124, 255, 511, 1023]
theorem spec_l71Expr.tab13 : rtab .any (opsOf Try.f55 13) = spec_l71Expr.T13 := by kernel_rfl
theorem spec_l71Expr.bits13 : waitsOk spec_l71Expr.T13.2 spec_l71Expr.B13 = true := by kernel_rfl
set_option maxHeartbeats 8000000 in
set_option maxRecDepth 100000 in
theorem spec_l71Expr.calls (k : Nat) : ∀ (g : Nat) (s0_0 : List Int) (s0_1 : Int) (a1 : Int) (a2 : Bool) (r1 : Int) (r2 : Int) (r3 : Int) (r4 : List (S25)) (r5 : Int) (w0 w : World) (hI : IsS72 w0 w g s0_0 s0_1) (hB : Below w0.heap.size w0 w) (h : spec_l71Expr.f k s0_0 s0_1 a1 a2 = some (r1, r2, r3, r4, r5)),
  Calls Try.prog 55 #[.pointer (some ⟨g, 0, none⟩), .int .i64 a1, .bool a2] w fun e w' => ∃ v3_ : Value, e = .returned (.agg #[.int .i64 r1, .int .i64 r2, .int .i64 r3, v3_]) ∧ Kd.R k25 25 w' w.heap.size (fun _ => True) v3_ r4 ∧ IsS72 w0 w' g s0_0 r5 ∧ Below w0.heap.size w0 w' ∧ KeepBut w w' g none := by
 induction k using Nat.strongRecOn with
 | _ k ih =>
 intro g s0_0 s0_1 a1 a2 r1 r2 r3 r4 r5 w0 w hI hB h
 cases k with
 | zero => exact absurd h (by simp [spec_l71Expr.f])
 | succ k =>
 simp only [spec_l71Expr.f] at h
 have hu25 := Try.underlying25
 have HI0 := Aside0.mk hI
 have HK := Aside0.mk (KeepBut.refl w g none)
 have HL := Aside0.mk hB.size
 clear hI
 have HW0 := Aside0.mk hB.size
 have HB := Aside0.mk hB
 clear hB
 have H : (if a1 < 2 then (spec_l71Expr.j0 k a1 a2 true s0_0 s0_1) else ((spec_l6Rd_pick.f k s0_0 s0_1 4).bind fun bt371 => (spec_l71Expr.j0 k a1 a2 (bt371.1 == 0) s0_0 bt371.2))) = some (r1, r2, r3, r4, r5) := h
 clear h
 have HC4 := Aside0.mk H
 clear H
 go_enter Try.func55, Try.ntmps55
 go_upto_region 1 with (first | ((with_reducible refine gate_dst (N := 6) rfl ?_); refine bE 6 #[.int .i64 0, .int .i64 0, .int .i64 0, .slice none 0 0] 25 ?_; intro gb370 hg w5 hbox hb; have BK370 := Aside0.mk (hbox); have GW370 := ks hg (hzk HK); have GE370 := kw HW0 hg (hzk HK); have NB0_370 := nL hg (IsS72.lt (show IsS72 w0 _ g s0_0 s0_1 from IsS72.go_ HI0)); have NB370_0 := nG hg (IsS72.lt (show IsS72 w0 _ g s0_0 s0_1 from IsS72.go_ HI0)); replace HI0 := Aside0.mk (IsS72.below (IsS72.go_ HI0) hb); replace HK := Aside0.mk (KeepBut.trans (hzk HK) (KeepBut.of_below hb g none) (.inl rfl)); replace HB := hbb (hzI HB) hb; clear hb hbox hg))
 (try simp only [Act.put, List.setIfInBounds_toArray, List.set_cons_zero, List.set_cons_succ])
 go_cut [17] (fun v17 wc => ∃ (kq : Nat) (x17_3 : Bool) (x1001_3 : Int), v17 = .bool x17_3 ∧ Aside0 (spec_l71Expr.j0 kq a1 a2 x17_3 s0_0 x1001_3 = some (r1, r2, r3, r4, r5)) ∧ Aside0 (kq ≤ k) ∧ Aside0 (wc.heap[gb370]? = some (.cells #[.int .i64 0, .int .i64 0, .int .i64 0, (.slice none 0 0)] 25 (0, 0))) ∧ Aside0 (IsS72 w0 wc g s0_0 x1001_3) ∧ Aside0 (KeepBut w wc g none) ∧ Aside0 (Below w0.heap.size w0 wc))
 case first =>
  have H := HC4.out
  clear HC4
  by_cases c6 : a1 < 2
  ·rw [if_pos c6] at H
   have c6b0 : decide (a1 < 2) = true := decide_eq_true c6
   clear c6
   (first | rw [c6b0] | (simp only [i64_w, i32_w]; rw [c6b0]) | skip)
   have H' := Aside0.mk H
   clear H
   go_wp2
   go_meet
   case rel => exact ⟨_, (true), (s0_1), (by first | rfl | (simp; done) | (simp [*]; done)), H', ⟨by first | omega | exact Nat.le_refl _⟩, ⟨bk BK370⟩, ⟨IsS72.go_ HI0⟩, ⟨hzk HK⟩, ⟨hzI HB⟩⟩
  ·rw [if_neg c6] at H
   have c6b0 : decide (a1 < 2) = false := decide_eq_false c6
   clear c6
   (first | rw [c6b0] | (simp only [i64_w, i32_w]; rw [c6b0]) | skip)
   replace H := Option.bind_eq_some_iff.mp H
   obtain ⟨⟨t371, t372⟩, A70, H⟩ := H
   try dsimp only at H
   have A7 := Aside0.mk A70
   clear A70
   have H' := Aside0.mk H
   clear H
   go_wp2_with (first | (go_at_call 38; (with_reducible refine (spec_l6Rd_pick.calls k g s0_0 s0_1 4 t371 t372 w0 _ ?side1 ?side2 A7.out).mono ?_); (case side1 => exact IsS72.go_ HI0); (case side2 => exact hzI HB); rintro e w8 ⟨rfl, hi, hb, hk⟩; replace BK370 := kb hk (bk BK370) NB370_0; replace HK := Aside0.mk (KeepBut.trans (hzk HK) hk (.inl rfl)); replace HB := Aside0.mk (hb); replace HI0 := Aside0.mk (hi); clear hi hb hk))
   go_meet
   case rel => exact ⟨_, ((t371 == 0)), (t372), (by first | rfl | (simp; done) | (simp [*]; done)), H', ⟨by first | omega | exact Nat.le_refl _⟩, ⟨bk BK370⟩, ⟨IsS72.go_ HI0⟩, ⟨hzk HK⟩, ⟨hzI HB⟩⟩
 case rest =>
  clear HC4
  try clear p2
  try clear c5
  try clear c6
  try clear c6b0
  obtain ⟨kq, x17_3, x1001_3, rfl, HA, HJ3, BK370, HI0, HK, HB⟩ := hcut
  cases kq with
  | zero => exact absurd HA.out (by simp [spec_l71Expr.j0])
  | succ kj3 =>
   have H := HA.out
   clear HA
   simp only [spec_l71Expr.j0] at H
   by_cases c9 : x17_3 = true
   ·subst c9
    rw [if_pos rfl] at H
    have HC10 := Aside0.mk H
    clear H
    go_upto_region 2 with (fail)
    go_cut [24] (fun v24 wc => ∃ (kq : Nat) (x24_9 : Bool) (x1001_9 : Int), v24 = .bool x24_9 ∧ Aside0 (spec_l71Expr.j1 kq x24_9 s0_0 x1001_9 = some (r1, r2, r3, r4, r5)) ∧ Aside0 (kq ≤ kj3) ∧ Aside0 (wc.heap[gb370]? = some (.cells #[.int .i64 0, .int .i64 0, .int .i64 0, (.slice none 0 0)] 25 (0, 0))) ∧ Aside0 (IsS72 w0 wc g s0_0 x1001_9) ∧ Aside0 (KeepBut w wc g none) ∧ Aside0 (Below w0.heap.size w0 wc))
    case first =>
     have H := HC10.out
     clear HC10
     by_cases c11 : a2 = true
     ·subst c11
      rw [if_pos rfl] at H
      have H' := Aside0.mk H
      clear H
      go_wp2
      go_meet
      case rel => exact ⟨_, (false), (x1001_3), (by first | rfl | (simp; done) | (simp [*]; done)), H', ⟨by have := HJ3.out; first | omega | exact Nat.le_refl _⟩, ⟨bk BK370⟩, ⟨IsS72.go_ HI0⟩, ⟨hzk HK⟩, ⟨hzI HB⟩⟩
     ·replace c11 := Bool.eq_false_iff.mpr c11
      subst c11
      rw [if_neg (show ¬ (false = true) by decide)] at H
      replace H := Option.bind_eq_some_iff.mp H
      obtain ⟨⟨t373, t374⟩, A120, H⟩ := H
      try dsimp only at H
      have A12 := Aside0.mk A120
      clear A120
      have H' := Aside0.mk H
      clear H
      go_wp2_with (first | (go_at_call 38; (with_reducible refine (spec_l6Rd_pick.calls kj3 g s0_0 x1001_3 4 t373 t374 w0 _ ?side1 ?side2 A12.out).mono ?_); (case side1 => exact IsS72.go_ HI0); (case side2 => exact hzI HB); rintro e w13 ⟨rfl, hi, hb, hk⟩; replace BK370 := kb hk (bk BK370) NB370_0; replace HK := Aside0.mk (KeepBut.trans (hzk HK) hk (.inl rfl)); replace HB := Aside0.mk (hb); replace HI0 := Aside0.mk (hi); clear hi hb hk))
      go_meet
      case rel => exact ⟨_, ((t373 == 0)), (t374), (by first | rfl | (simp; done) | (simp [*]; done)), H', ⟨by have := HJ3.out; first | omega | exact Nat.le_refl _⟩, ⟨bk BK370⟩, ⟨IsS72.go_ HI0⟩, ⟨hzk HK⟩, ⟨hzI HB⟩⟩
    case rest =>
     clear HC10
     try clear c1
     try clear p2
     try clear c5
     try clear c6
     try clear c6b0
     try clear c9
     try clear c11
     try clear p2
     obtain ⟨kq, x24_9, x1001_9, rfl, HA, HJ9, BK370, HI0, HK, HB⟩ := hcut
     cases kq with
     | zero => exact absurd HA.out (by simp [spec_l71Expr.j1])
     | succ kj9 =>
      have H := HA.out
      clear HA
      simp only [spec_l71Expr.j1] at H
      by_cases c14 : x24_9 = true
      ·subst c14
       rw [if_pos rfl] at H
       replace H := Option.bind_eq_some_iff.mp H
       obtain ⟨⟨t375, t376⟩, A150, H⟩ := H
       try dsimp only at H
       have A15 := Aside0.mk A150
       clear A150
       simp only [Option.some.injEq, Prod.mk.injEq] at H
       obtain ⟨rfl, rfl, rfl, rfl, rfl⟩ := H
       go_wp2_with (first | ((with_reducible refine gate_callee (f := 82) rfl ?_); refine gL 26 Try.func82 #[.pointer (some ⟨g, 0, none⟩), .int .i64 129600000] ?_; (with_reducible refine (spec_l71Big.calls kj9 g s0_0 x1001_9 129600000 t375 t376 w0 _ ?side1 ?side2 A15.out).mono ?_); (case side1 => exact IsS72.go_ HI0); (case side2 => exact hzI HB); rintro e w16 ⟨rfl, hi, hb, hk⟩; refine ⟨_, rfl, ?_⟩; replace BK370 := kb hk (bk BK370) NB370_0; replace HK := Aside0.mk (KeepBut.trans (hzk HK) hk (.inl rfl)); replace HB := Aside0.mk (hb); replace HI0 := Aside0.mk (hi); clear hi hb hk; have hnb17 := NB370_0.out; have hnc17 := NB0_370.out; obtain ⟨hcz18_0, hcz18_1, hcz18_2, hcz18_3, hfz18_0, hfz18_1, hfz18_2, hfz18_3⟩ := cz4 BK370))
       refine bodyPost_ret (results_cell_row rfl _ _ gb370 25 #[.int .i64 4, .int .i64 t375, .int .i64 0, .slice none 0 0] (0, 0) _ rfl (by (with_reducible repeat (first | refine blk_drewN ?_ _ | refine blk_drew ?_ | refine blk_alloc ?_ _)); refine blk_put (cs := #[.int .i64 4, .int .i64 t375, .int .i64 0, .slice none 0 0]) ?_ 3 _ rfl; (with_reducible repeat (first | refine blk_drewN ?_ _ | refine blk_drew ?_ | refine blk_alloc ?_ _)); refine blk_put (cs := #[.int .i64 4, .int .i64 t375, .int .i64 0, .slice none 0 0]) ?_ 2 _ rfl; (with_reducible repeat (first | refine blk_drewN ?_ _ | refine blk_drew ?_ | refine blk_alloc ?_ _)); refine blk_put (cs := #[.int .i64 4, .int .i64 0, .int .i64 0, .slice none 0 0]) ?_ 1 _ rfl; (with_reducible repeat (first | refine blk_drewN ?_ _ | refine blk_drew ?_ | refine blk_alloc ?_ _)); refine blk_put (cs := #[.int .i64 0, .int .i64 0, .int .i64 0, .slice none 0 0]) ?_ 0 _ rfl; (with_reducible repeat (first | refine blk_drewN ?_ _ | refine blk_drew ?_ | refine blk_alloc ?_ _)); exact BK370.out) Try.underlying25 rfl (by kernel_rfl)) rfl ?_
       exact ⟨_, by first | rfl | (simp [errW_none, errW_some] <;> rfl) | (simp [*, errW_none, errW_some] <;> rfl), by first | exact Kd.R_nil _ _ _ _ _ | exact Kd.N_nil _ _ _ _ _ | exact Kd.V_nil _ _ _ _ _ | exact Kd.Q_nil _ _ _ _ _ | exact Kd.S_nil _ _ _ _ _, IsS72.go_ HI0, hzI HB, hzk HK⟩
      ·replace c14 := Bool.eq_false_iff.mpr c14
       subst c14
       rw [if_neg (show ¬ (false = true) by decide)] at H
       replace H := Option.bind_eq_some_iff.mp H
       obtain ⟨⟨t377, t378⟩, A190, H⟩ := H
       try dsimp only at H
       have A19 := Aside0.mk A190
       clear A190
       replace H := Option.bind_eq_some_iff.mp H
       obtain ⟨⟨t379, t380⟩, A200, H⟩ := H
       try dsimp only at H
       have A20 := Aside0.mk A200
       clear A200
       simp only [Option.some.injEq, Prod.mk.injEq] at H
       obtain ⟨rfl, rfl, rfl, rfl, rfl⟩ := H
       go_wp2_with (first | ((with_reducible refine gate_callee (f := 38) rfl ?_); refine gL 29 Try.func38 #[.pointer (some ⟨g, 0, none⟩), .int .i64 20] ?_; (with_reducible refine (spec_l6Rd_pick.calls kj9 g s0_0 x1001_9 20 t377 t378 w0 _ ?side1 ?side2 A19.out).mono ?_); (case side1 => exact IsS72.go_ HI0); (case side2 => exact hzI HB); rintro e w21 ⟨rfl, hi, hb, hk⟩; refine ⟨_, rfl, ?_⟩; replace BK370 := kb hk (bk BK370) NB370_0; replace HK := Aside0.mk (KeepBut.trans (hzk HK) hk (.inl rfl)); replace HB := Aside0.mk (hb); replace HI0 := Aside0.mk (hi); clear hi hb hk) | ((with_reducible refine gate_callee (f := 38) rfl ?_); refine gL 35 Try.func38 #[.pointer (some ⟨g, 0, none⟩), .int .i64 (wrap64 ((wrap64 (2 * (wrap64 (1 + t377)))) + 1))] ?_; (with_reducible refine (spec_l6Rd_pick.calls kj9 g s0_0 t378 (wrap64 ((wrap64 (2 * (wrap64 (1 + t377)))) + 1)) t379 t380 w0 _ ?side1 ?side2 A20.out).mono ?_); (case side1 => exact IsS72.go_ HI0); (case side2 => exact hzI HB); rintro e w22 ⟨rfl, hi, hb, hk⟩; refine ⟨_, rfl, ?_⟩; replace BK370 := kb hk (bk BK370) NB370_0; replace HK := Aside0.mk (KeepBut.trans (hzk HK) hk (.inl rfl)); replace HB := Aside0.mk (hb); replace HI0 := Aside0.mk (hi); clear hi hb hk; have hnb23 := NB370_0.out; have hnc23 := NB0_370.out; obtain ⟨hcz24_0, hcz24_1, hcz24_2, hcz24_3, hfz24_0, hfz24_1, hfz24_2, hfz24_3⟩ := cz4 BK370))
       refine bodyPost_ret (results_cell_row rfl _ _ gb370 25 #[.int .i64 1, .int .i64 (wrap64 (t379 - (wrap64 (1 + t377)))), .int .i64 (wrap64 (1 + t377)), .slice none 0 0] (0, 0) _ rfl (by (with_reducible repeat (first | refine blk_drewN ?_ _ | refine blk_drew ?_ | refine blk_alloc ?_ _)); refine blk_put (cs := #[.int .i64 1, .int .i64 (wrap64 (t379 - (wrap64 (1 + t377)))), .int .i64 (wrap64 (1 + t377)), .slice none 0 0]) ?_ 3 _ rfl; (with_reducible repeat (first | refine blk_drewN ?_ _ | refine blk_drew ?_ | refine blk_alloc ?_ _)); refine blk_put (cs := #[.int .i64 1, .int .i64 (wrap64 (t379 - (wrap64 (1 + t377)))), .int .i64 0, .slice none 0 0]) ?_ 2 _ rfl; (with_reducible repeat (first | refine blk_drewN ?_ _ | refine blk_drew ?_ | refine blk_alloc ?_ _)); refine blk_put (cs := #[.int .i64 1, .int .i64 0, .int .i64 0, .slice none 0 0]) ?_ 1 _ rfl; (with_reducible repeat (first | refine blk_drewN ?_ _ | refine blk_drew ?_ | refine blk_alloc ?_ _)); refine blk_put (cs := #[.int .i64 0, .int .i64 0, .int .i64 0, .slice none 0 0]) ?_ 0 _ rfl; (with_reducible repeat (first | refine blk_drewN ?_ _ | refine blk_drew ?_ | refine blk_alloc ?_ _)); exact BK370.out) Try.underlying25 rfl (by kernel_rfl)) rfl ?_
       exact ⟨_, by first | rfl | (simp [errW_none, errW_some] <;> rfl) | (simp [*, errW_none, errW_some] <;> rfl), by first | exact Kd.R_nil _ _ _ _ _ | exact Kd.N_nil _ _ _ _ _ | exact Kd.V_nil _ _ _ _ _ | exact Kd.Q_nil _ _ _ _ _ | exact Kd.S_nil _ _ _ _ _, IsS72.go_ HI0, hzI HB, hzk HK⟩
   ·replace c9 := Bool.eq_false_iff.mpr c9
    subst c9
    rw [if_neg (show ¬ (false = true) by decide)] at H
    obtain ⟨y381, hy381⟩ : ∃ y_ : List Int, y_ = (([5, 6, 7, 7, 8, 2, 3] : List Int)) := ⟨_, rfl⟩
    replace H : ((spec_l6Rd_pick.f kj3 s0_0 x1001_3 7).bind fun bt384 => (if 0 ≤ bt384.1 then (if bt384.1 < (y381.length : Int) then (if a2 = true then (spec_l71Expr.j2 kj3 a1 a2 (rd y381 bt384.1) ((rd y381 bt384.1) == 3) s0_0 bt384.2) else (spec_l71Expr.j2 kj3 a1 a2 (rd y381 bt384.1) false s0_0 bt384.2)) else (none)) else (none))) = some (r1, r2, r3, r4, r5) := by first | (rw [hy381]; with_reducible exact H) | (have H2_ := (Option.bind_some _ _).symm.trans H; rw [hy381]; with_reducible exact H2_) | (have H2_ := (Option.bind_some _ _).symm.trans H; with_reducible exact H2_) | with_reducible exact H | (rw [hy381]; exact H) | exact H
    have Ny381 := Aside0.mk hy381
    clear hy381
    replace H := Option.bind_eq_some_iff.mp H
    obtain ⟨⟨t384, t385⟩, A250, H⟩ := H
    try dsimp only at H
    have A25 := Aside0.mk A250
    clear A250
    by_cases c26 : 0 ≤ t384
    ·rw [if_pos c26] at H
     have c26b0 : decide (0 ≤ t384) = true := decide_eq_true c26
     clear c26
     by_cases c27 : t384 < (y381.length : Int)
     ·rw [if_pos c27] at H
      have c27b0 : decide (t384 < (y381.length : Int)) = true := decide_eq_true c27
      clear c27
      have HC28 := Aside0.mk H
      clear H
      go_upto_region 7 with (first | ((with_reducible refine gate_dst (N := 40) rfl ?_); refine Kd.R_lit (Kd.int .i64) _ 3 ?hg (N := 40) ?hd (xs := ([5, 6, 7, 7, 8, 2, 3] : List Int)) (inner := [.int .i64 5, .int .i64 6, .int .i64 7, .int .i64 7, .int .i64 8, .int .i64 2, .int .i64 3]) (ok := fun _ => True) (okp := fun _ => True) ?hr ?hp (fun _ hk => hk) trivial (Below.refl _ _) (Nat.le_refl _) (by simp) ?_; (case hd => rfl); (case hg => rfl); (case hr => first | (go_simp; done) | (go_simp; rfl)); (case hp => exact (Reps.one (show Kd.M (Kd.int .i64) _ _ _ 5 [.int .i64 5] from rfl) (Reps.one (show Kd.M (Kd.int .i64) _ _ _ 6 [.int .i64 6] from rfl) (Reps.one (show Kd.M (Kd.int .i64) _ _ _ 7 [.int .i64 7] from rfl) (Reps.one (show Kd.M (Kd.int .i64) _ _ _ 7 [.int .i64 7] from rfl) (Reps.one (show Kd.M (Kd.int .i64) _ _ _ 8 [.int .i64 8] from rfl) (Reps.one (show Kd.M (Kd.int .i64) _ _ _ 2 [.int .i64 2] from rfl) (Reps.one (show Kd.M (Kd.int .i64) _ _ _ 3 [.int .i64 3] from rfl) (Reps.none _ _))))))))); intro v382 w29 ho30 hb hg_ hnew_; clear hg_ hnew_; (first | rw [← Ny381.out] at ho30 | (simp only [Int.reduceToNat] at ho30; rw [← Ny381.out] at ho30)); have HO383 := Aside0.mk (Kd.R_lower ho30 (keep_size (w := w) (g := g) (row := none) (hzk HK))); replace BK370 := bb (bk BK370) hb; replace HI0 := Aside0.mk (IsS72.below (IsS72.go_ HI0) hb); replace HK := Aside0.mk (KeepBut.trans (hzk HK) (KeepBut.of_below hb g none) (.inl rfl)); replace HB := hbb (hzI HB) hb; clear hb ho30) | ((with_reducible refine gate_callee (f := 38) rfl ?_); refine gL 42 Try.func38 #[.pointer (some ⟨g, 0, none⟩), .int .i64 7] ?_; (with_reducible refine (spec_l6Rd_pick.calls kj3 g s0_0 x1001_3 7 t384 t385 w0 _ ?side1 ?side2 A25.out).mono ?_); (case side1 => exact IsS72.go_ HI0); (case side2 => exact hzI HB); rintro e w31 ⟨rfl, hi, hb, hk⟩; refine ⟨_, rfl, ?_⟩; replace BK370 := kb hk (bk BK370) NB370_0; replace HO383 := Aside0.mk (Kd.R_mono (Kd.R_keep (IsS72.apart (show IsS72 w0 _ g s0_0 x1001_3 from IsS72.go_ HI0) (by (with_reducible repeat (first | apply Kd.R_alloc | apply Kd.R_drewN | apply Kd.R_drew)); exact HO383.out) (by decide)) hk (fun _ h => h.2)) (fun _ h => h.1)); replace HK := Aside0.mk (KeepBut.trans (hzk HK) hk (.inl rfl)); replace HB := Aside0.mk (hb); replace HI0 := Aside0.mk (hi); clear hi hb hk; obtain ⟨Ao32, co32, eo32⟩ := Kd.R_slice HO383.out; subst eo32; have p386 : 0 ≤ (t384 : Int) := of_decide_eq_true (by first | (with_reducible assumption) | assumption); have q386 : t384 < (y381.length : Int) := of_decide_eq_true (by first | (with_reducible assumption) | assumption); obtain ⟨ad386, e386, hx386_0⟩ := Kd.at_int (Kd.R_reads' HO383.out).2.2 t384 p386 q386; cases e386; replace p386 := eq_true p386; replace q386 := eq_true q386))
      (try simp only [Act.put, List.setIfInBounds_toArray, List.set_cons_zero, List.set_cons_succ])
      go_cut [49] (fun v49 wc => ∃ (kq : Nat) (x49_27 : Bool), v49 = .bool x49_27 ∧ Aside0 (spec_l71Expr.j2 kq a1 a2 (rd y381 t384) x49_27 s0_0 t385 = some (r1, r2, r3, r4, r5)) ∧ Aside0 (kq ≤ kj3) ∧ Aside0 (wc.heap[gb370]? = some (.cells #[.int .i64 0, .int .i64 0, .int .i64 0, (.slice none 0 0)] 25 (0, 0))) ∧ Aside0 (IsS72 w0 wc g s0_0 t385) ∧ Aside0 (KeepBut w wc g none) ∧ Aside0 (Below w0.heap.size w0 wc))
      case first =>
       have H := HC28.out
       clear HC28
       by_cases c33 : a2 = true
       ·subst c33
        rw [if_pos rfl] at H
        have H' := Aside0.mk H
        clear H
        go_wp2
        go_meet
        case rel => exact ⟨_, (((rd y381 t384) == 3)), (by first | rfl | (simp; done) | (simp [*]; done)), H', ⟨by have := HJ3.out; first | omega | exact Nat.le_refl _⟩, ⟨bk BK370⟩, ⟨IsS72.go_ HI0⟩, ⟨hzk HK⟩, ⟨hzI HB⟩⟩
       ·replace c33 := Bool.eq_false_iff.mpr c33
        subst c33
        rw [if_neg (show ¬ (false = true) by decide)] at H
        have H' := Aside0.mk H
        clear H
        go_wp2
        go_meet
        case rel => exact ⟨_, (false), (by first | rfl | (simp; done) | (simp [*]; done)), H', ⟨by have := HJ3.out; first | omega | exact Nat.le_refl _⟩, ⟨bk BK370⟩, ⟨IsS72.go_ HI0⟩, ⟨hzk HK⟩, ⟨hzI HB⟩⟩
      case rest =>
       clear HC28
       try clear c1
       try clear c2
       try clear p2
       try clear c3
       try clear p3
       try clear q3
       try clear hx3
       try clear c5
       try clear c6
       try clear c6b0
       try clear p6
       try clear c8
       try clear c9
       try clear c11
       try clear c14
       try clear c17
       try clear c23
       try clear c26
       try clear c26b0
       try clear c27
       try clear c27b0
       try clear c33
       try clear hcz18_0 hcz18_1 hcz18_2 hcz18_3
       try clear hcz24_0 hcz24_1 hcz24_2 hcz24_3
       try clear hfz18_0 hfz18_1 hfz18_2 hfz18_3
       try clear hfz24_0 hfz24_1 hfz24_2 hfz24_3
       try clear hx386_0
       try clear p2
       try clear p386
       try clear q386
       obtain ⟨kq, x49_27, rfl, HA, HJ27, BK370, HI0, HK, HB⟩ := hcut
       cases kq with
       | zero => exact absurd HA.out (by simp [spec_l71Expr.j2])
       | succ kj27 =>
        have H := HA.out
        clear HA
        simp only [spec_l71Expr.j2] at H
        have HC34 := Aside0.mk H
        clear H
        go_upto_if 49 with (fail)
        go_cut [8] (fun v8 wc => ∃ (kq : Nat) (x8_33 : Int), v8 = .int .i64 x8_33 ∧ Aside0 (spec_l71Expr.j3 kq a1 a2 x8_33 s0_0 t385 = some (r1, r2, r3, r4, r5)) ∧ Aside0 (kq ≤ kj27) ∧ Aside0 (wc.heap[gb370]? = some (.cells #[.int .i64 0, .int .i64 0, .int .i64 0, (.slice none 0 0)] 25 (0, 0))) ∧ Aside0 (IsS72 w0 wc g s0_0 t385) ∧ Aside0 (KeepBut w wc g none) ∧ Aside0 (Below w0.heap.size w0 wc))
        case first =>
         have H := HC34.out
         clear HC34
         by_cases c35 : x49_27 = true
         ·subst c35
          rw [if_pos rfl] at H
          have H' := Aside0.mk H
          clear H
          go_wp2
          go_meet
          case rel => exact ⟨_, (7), (by first | rfl | (simp; done) | (simp [*]; done)), H', ⟨by have := HJ3.out; have := HJ27.out; first | omega | exact Nat.le_refl _⟩, ⟨bk BK370⟩, ⟨IsS72.go_ HI0⟩, ⟨hzk HK⟩, ⟨hzI HB⟩⟩
         ·replace c35 := Bool.eq_false_iff.mpr c35
          subst c35
          rw [if_neg (show ¬ (false = true) by decide)] at H
          have H' := Aside0.mk H
          clear H
          go_wp2
          go_meet
          case rel => exact ⟨_, ((rd y381 t384)), (by first | rfl | (simp; done) | (simp [*]; done)), H', ⟨by have := HJ3.out; have := HJ27.out; first | omega | exact Nat.le_refl _⟩, ⟨bk BK370⟩, ⟨IsS72.go_ HI0⟩, ⟨hzk HK⟩, ⟨hzI HB⟩⟩
        case rest =>
         clear HC34
         try clear c1
         try clear c2
         try clear p2
         try clear c3
         try clear p3
         try clear q3
         try clear hx3
         try clear c5
         try clear c6
         try clear c6b0
         try clear p6
         try clear c8
         try clear c9
         try clear c11
         try clear c14
         try clear c17
         try clear c23
         try clear c26
         try clear c26b0
         try clear c27
         try clear c27b0
         try clear c33
         try clear c35
         try clear hcz18_0 hcz18_1 hcz18_2 hcz18_3
         try clear hcz24_0 hcz24_1 hcz24_2 hcz24_3
         try clear hfz18_0 hfz18_1 hfz18_2 hfz18_3
         try clear hfz24_0 hfz24_1 hfz24_2 hfz24_3
         try clear hx386_0
         try clear p2
         try clear p3
         try clear p386
         try clear p6
         try clear q3
         try clear q386
         obtain ⟨kq, x8_33, rfl, HA, HJ33, BK370, HI0, HK, HB⟩ := hcut
         cases kq with
         | zero => exact absurd HA.out (by simp [spec_l71Expr.j3])
         | succ kj33 =>
          have H := HA.out
          clear HA
          simp only [spec_l71Expr.j3] at H
          have H' := Aside0.mk H
          clear H
          go_wp2_with (first | ((with_reducible refine gate_dst (N := 9) rfl ?_); refine bE 9 #[.int .i64 0, .int .i64 0, .int .i64 0, .slice none 0 0] 25 ?_; intro gb387 hg w36 hbox hb; have BK387 := Aside0.mk (hbox); have GW387 := ks hg (hzk HK); have GE387 := kw HW0 hg (hzk HK); have NB370_387 := nl hg (bk BK370); have NB387_370 := ng hg (bk BK370); have NB0_387 := nL hg (IsS72.lt (show IsS72 w0 _ g s0_0 t385 from IsS72.go_ HI0)); have NB387_0 := nG hg (IsS72.lt (show IsS72 w0 _ g s0_0 t385 from IsS72.go_ HI0)); replace BK370 := bb (bk BK370) hb; replace HI0 := Aside0.mk (IsS72.below (IsS72.go_ HI0) hb); replace HK := Aside0.mk (KeepBut.trans (hzk HK) (KeepBut.of_below hb g none) (.inl rfl)); replace HB := hbb (hzI HB) hb; clear hb hbox hg; have hnb37 := NB387_370.out; have hnc37 := NB370_387.out; have hnb38 := NB387_0.out; have hnc38 := NB0_387.out; obtain ⟨hcz39_0, hcz39_1, hcz39_2, hcz39_3, hfz39_0, hfz39_1, hfz39_2, hfz39_3⟩ := cz4 BK387))
          go_loopg [10] kj33 (fun kq v10 w' => ∃ (x10_4 : Int) (x1001_4 : Int) (x388003_4 : List (S25)) (u388003 : Value), v10 = .int .i64 x10_4 ∧ Aside0 (spec_l71Expr.l0 kq a1 a2 x8_33 x10_4 s0_0 x1001_4 x8_33 0 0 x388003_4 = some (r1, r2, r3, r4, r5)) ∧ Aside0 (kq ≤ kj33) ∧ Aside0 (Kd.R k25 25 w' w.heap.size (fun k_ => k_ ≠ gb370 ∧ k_ ≠ gb387) u388003 x388003_4) ∧ Aside0 (w'.heap[gb370]? = some (.cells #[.int .i64 0, .int .i64 0, .int .i64 0, (.slice none 0 0)] 25 (0, 0))) ∧ Aside0 (w'.heap[gb387]? = some (.cells #[.int .i64 x8_33, .int .i64 0, .int .i64 0, u388003] 25 (0, 0))) ∧ Aside0 (IsS72 w0 w' g s0_0 x1001_4) ∧ Aside0 (KeepBut w w' g none) ∧ Aside0 (Below w0.heap.size w0 w'))
          case atStart => exact ⟨(0), (t385), (([] : List (S25))), (.slice none 0 0), (by first | rfl | (simp; done) | (simp [*]; done)), H', ⟨Nat.le_refl _⟩, ⟨by first | exact Kd.R_nil _ _ _ _ _ | exact Kd.N_nil _ _ _ _ _ | exact Kd.V_nil _ _ _ _ _ | exact Kd.Q_nil _ _ _ _ _ | exact Kd.S_nil _ _ _ _ _⟩, ⟨bk1 BK370 NB370_387⟩, ⟨by (with_reducible repeat (first | refine blk_drewN ?_ _ | refine blk_drew ?_ | refine blk_alloc ?_ _)); refine blk_put (cs := #[.int .i64 x8_33, .int .i64 0, .int .i64 0, .slice none 0 0]) ?_ 3 _ rfl; (with_reducible repeat (first | refine blk_drewN ?_ _ | refine blk_drew ?_ | refine blk_alloc ?_ _)); refine blk_put (cs := #[.int .i64 x8_33, .int .i64 0, .int .i64 0, .slice none 0 0]) ?_ 2 _ rfl; (with_reducible repeat (first | refine blk_drewN ?_ _ | refine blk_drew ?_ | refine blk_alloc ?_ _)); refine blk_put (cs := #[.int .i64 x8_33, .int .i64 0, .int .i64 0, .slice none 0 0]) ?_ 1 _ rfl; (with_reducible repeat (first | refine blk_drewN ?_ _ | refine blk_drew ?_ | refine blk_alloc ?_ _)); refine blk_put (cs := #[.int .i64 0, .int .i64 0, .int .i64 0, .slice none 0 0]) ?_ 0 _ rfl; (with_reducible repeat (first | refine blk_drewN ?_ _ | refine blk_drew ?_ | refine blk_alloc ?_ _)); exact BK387.out⟩, ⟨IsS72.go_ HI0⟩, ⟨hzk HK⟩, ⟨hzI HB⟩⟩
          case round =>
           clear H'
           try clear c1
           try clear c2
           try clear p2
           try clear c3
           try clear p3
           try clear q3
           try clear hx3
           try clear c5
           try clear c6
           try clear c6b0
           try clear p6
           try clear c8
           try clear c9
           try clear c11
           try clear c14
           try clear c17
           try clear c23
           try clear c26
           try clear c26b0
           try clear c27
           try clear c27b0
           try clear c33
           try clear c35
           try clear c37
           try clear c38
           try clear p38
           try clear q38
           try clear hx38
           try clear hcz18_0 hcz18_1 hcz18_2 hcz18_3
           try clear hcz24_0 hcz24_1 hcz24_2 hcz24_3
           try clear hcz39_0 hcz39_1 hcz39_2 hcz39_3
           try clear hfz18_0 hfz18_1 hfz18_2 hfz18_3
           try clear hfz24_0 hfz24_1 hfz24_2 hfz24_3
           try clear hfz39_0 hfz39_1 hfz39_2 hfz39_3
           try clear hx386_0
           try clear p2
           try clear p3
           try clear p386
           try clear p6
           try clear q3
           try clear q386
           obtain ⟨x10_4, x1001_4, x388003_4, u388003, rfl, HA, HK4, HO_388003, BK370, BK387, HI0, HK, HB⟩ := hrel
           cases gk with
           | zero => exact absurd HA.out (by simp [spec_l71Expr.l0])
           | succ k4 =>
            have H := HA.out
            clear HA
            simp only [spec_l71Expr.l0] at H
            replace H := Option.bind_eq_some_iff.mp H
            obtain ⟨t388, A400, H⟩ := H
            try dsimp only at H
            have A40 := Aside0.mk A400
            clear A400
            by_cases c41 : x10_4 < t388
            ·rw [if_pos c41] at H
             have c41b0 : decide (x10_4 < t388) = true := decide_eq_true c41
             clear c41
             replace H := Option.bind_eq_some_iff.mp H
             obtain ⟨⟨t389, t390, t391, t392, t395⟩, A420, H⟩ := H
             try dsimp only at H
             have A42 := Aside0.mk A420
             clear A420
             by_cases c43 : x388003_4.length < 2932031007402
             ·rw [if_pos c43] at H
              have LMc43 := Aside0.mk c43
              clear c43
              obtain ⟨y396, hy396⟩ : ∃ y_ : List (S25), y_ = (x388003_4 ++ [(⟨t389, t390, t391, t392⟩ : S25)]) := ⟨_, rfl⟩
              replace H : (spec_l71Expr.l0 k4 a1 a2 x8_33 (wrap64 (x10_4 + 1)) s0_0 t395 x8_33 0 0 y396) = some (r1, r2, r3, r4, r5) := by first | (rw [hy396]; with_reducible exact H) | (have H2_ := (Option.bind_some _ _).symm.trans H; rw [hy396]; with_reducible exact H2_) | (have H2_ := (Option.bind_some _ _).symm.trans H; with_reducible exact H2_) | with_reducible exact H | (rw [hy396]; exact H) | exact H
              have Ny396 := Aside0.mk hy396
              clear hy396
              have H' := Aside0.mk H
              clear H
              try go_wp2_with (first | ((with_reducible refine gate_callee (f := 66) rfl ?_); refine gL 54 Try.func66 #[.int .i64 x8_33] ?_; (with_reducible refine (spec_l31Kids.calls x8_33 t388 _ A40.out).mono ?_); rintro e w44 ⟨rfl, hb⟩; refine ⟨_, rfl, ?_⟩; replace HO_388003 := Aside0.mk (Kd.R_below (by (with_reducible repeat (first | apply Kd.R_alloc | apply Kd.R_drewN | apply Kd.R_drew)); exact HO_388003.out) hb); replace BK370 := bb (bk BK370) hb; replace BK387 := bb (bk BK387) hb; replace HI0 := Aside0.mk (IsS72.below (IsS72.go_ HI0) hb); replace HK := Aside0.mk (KeepBut.trans (hzk HK) (KeepBut.of_below hb g none) (.inl rfl)); replace HB := hbb (hzI HB) hb; clear hb))
              replace HO_388003 := Aside0.mk (Kd.R_drew HO_388003.out)
              replace BK370 := Aside0.mk (blk_drew BK370.out)
              replace BK387 := Aside0.mk (blk_drew BK387.out)
              replace HI0 := Aside0.mk (IsS72.drew HI0.out)
              replace HK := Aside0.mk (keep_drew HK.out)
              replace HB := Aside0.mk (below_drew1 HB.out)
              refine start_ (n := 11) (S := fun w' => w'.cell? ⟨gb387, 0, none⟩ = some (.int .i64 x8_33) ∧ w'.cell? ⟨gb387, 1, none⟩ = some (.int .i64 0) ∧ w'.cell? ⟨gb387, 2, none⟩ = some (.int .i64 0) ∧ w'.cell? ⟨gb387, 3, none⟩ = some (u388003)) (ds := [10]) #[false, false, false, false, false, false, false, false, false, false, false] (by kernel_rfl) rfl rfl ⟨cw0 BK387, cw1 BK387, (blk_cell BK387.out 2).trans rfl, (blk_cell BK387.out 3).trans rfl⟩ (fun hHeld => ?_); refine with_tabW spec_l71Expr.tab13 spec_l71Expr.bits13 (fun HT_ HW_ => ?_)
              generalize w44.drew = w45 at HO_388003 BK370 BK387 HI0 HK HB hHeld ⊢
              refine pU 0 58 #[true, false, false, false, false, false, false, false, false, false, false] HT_ ?_
              refine pU 2 60 #[true, false, true, false, false, false, false, false, false, false, false] HT_ ?_
              refine pU 3 61 #[true, false, true, true, false, false, false, false, false, false, false] HT_ ?_
              refine pU 4 62 #[true, false, true, true, true, false, false, false, false, false, false] HT_ ?_
              refine pU 5 63 #[true, false, true, true, true, true, false, false, false, false, false] HT_ ?_
              refine take_ (i := 1) (N := some 59) (v := ?_) (a' := ?_) #[true, true, true, true, true, true, false, false, false, false, false] rfl rfl (take_ofW HT_.out HW_.out (by kernel_rfl)) (fun _ _ _ h => h) (Or.inl ⟨by rfl, ?_⟩) hHeld ?_ ?_
              rotate_left
              ·rintro w' ⟨s0, s1, s2, s3⟩
               go_simp
               with_reducible rfl
              rotate_left
              ·simp only [Act.put, List.setIfInBounds_toArray, List.set_cons_zero, List.set_cons_succ, i64_w, i32_w]
               rfl
              refine oN 6 64 #[true, true, true, true, true, true, true, false, false, false, false] HT_ (fun K hK => ?_)
              refine gS Try.func55 #[.pointer (some ⟨g, 0, none⟩), .int .i64 (wrap64 (a1 - 1)), .bool a2] ?_
              with_reducible refine (ih k4 (by have := HJ3.out; have := HJ27.out; have := HJ33.out; have := HK4.out; omega) g s0_0 x1001_4 (wrap64 (a1 - 1)) a2 t389 t390 t391 t392 t395 w0 _ ?side1 ?side2 A42.out).mono ?_
              (case side1 => exact IsS72.go_ HI0)
              (case side2 => exact hzI HB)
              rintro e w46 ⟨v393, rfl, ho0, hi, hb, hk⟩
              refine ⟨_, rfl, ?_⟩
              have HO394 := Aside0.mk (Kd.R_lower (Kd.R_newB (Kd.R_newB (Kd.R_new' ho0 (Kd.R_lt (by (with_reducible repeat (first | apply Kd.R_alloc | apply Kd.R_drewN | apply Kd.R_drew)); exact HO_388003.out))) (g := gb370) (o := .cells #[.int .i64 0, .int .i64 0, .int .i64 0, .slice none 0 0] 25 (0, 0)) (bk BK370)) (g := gb387) (o := .cells #[.int .i64 x8_33, .int .i64 0, .int .i64 0, u388003] 25 (0, 0)) (bk BK387)) (keep_size (w := w) (g := g) (row := none) (hzk HK)))
              replace HO_388003 := Aside0.mk (Kd.R_mono (Kd.R_told (Kd.R_oldK (IsS72.apart (show IsS72 w0 _ g s0_0 x1001_4 from IsS72.go_ HI0) (by (with_reducible repeat (first | apply Kd.R_alloc | apply Kd.R_drewN | apply Kd.R_drew)); exact HO_388003.out) (by decide)) hk) (Kd.R_base ho0)) (fun _ h_ => h_.1))
              replace BK370 := kb hk (bk BK370) NB370_0
              replace BK387 := kb hk (bk BK387) NB387_0
              replace HK := Aside0.mk (KeepBut.trans (hzk HK) hk (.inl rfl))
              replace HB := Aside0.mk (hb)
              replace HI0 := Aside0.mk (hi)
              (try clear hb)
              (try clear hb2)
              (try clear hk)
              (try clear hi)
              (try clear ho0)
              obtain ⟨Ao48, co48, eo48⟩ := Kd.R_slice HO394.out
              (first | subst eo48 | (injection eo48 with f1_ f2_ f3_; have f4_ := f1_.symm; have f5_ := f3_.symm; clear f1_ f2_ f3_; subst f4_; subst f5_))
              refine hK.out _ _ ⟨cw0 BK387, cw1 BK387, (blk_cell BK387.out 2).trans rfl, (blk_cell BK387.out 3).trans rfl⟩ (fun hHeld => ?_)
              clear hK K
              refine nP ?_
              refine oN 7 65 #[true, true, true, true, true, true, true, true, false, false, false] HT_ (fun K hK => ?_)
              refine value_ (w1 := ?_) (v := ?_) (by rfl) rfl ?_ ?_
              rotate_left 2
              ·go_simp
               constructor
               ·rfl
               ·rfl
              refine hK.out _ _ ⟨(blk_cell (blk_alloc BK387.out _) 0).trans rfl, (blk_cell (blk_alloc BK387.out _) 1).trans rfl, (blk_cell (blk_alloc BK387.out _) 2).trans rfl, (blk_cell (blk_alloc BK387.out _) 3).trans rfl⟩ (fun hHeld => ?_)
              clear hK K
              refine nP ?_
              refine oN 8 66 #[true, true, true, true, true, true, true, true, true, false, false] HT_ (fun K hK => ?_)
              refine Kd.R_append_step k25 w.heap.size (by rfl) (.tmp 59) (.tmp 65) 23 25 (.agg #[(.int .i64 0), (.int .i64 0), (.int .i64 0), (.slice none 0 0)]) 48 rfl Try.underlying23 info25 rfl (by decide) (by omega) u388003 x388003_4 (⟨t389, t390, t391, t392⟩ : S25) [.int .i64 t389, .int .i64 t390, .int .i64 t391, .slice Ao48 t392.length co48] (fun k_ => k_ ≠ gb370 ∧ k_ ≠ gb387) (fun k_ => ((fun k_ => k_ ≠ gb370 ∧ k_ ≠ gb387)) k_ ∧ some k_ ≠ (u388003 : Value).ownBlock) rfl rfl ?aP (fun _ hk => hk) ?aF ?aO (Below.refl _ _) ?aS ?aL ?_
              (case aP => exact k25_mkM _ _ _ (⟨t389, t390, t391, t392⟩ : S25) (Kd.R_mono (HO394.out) (fun k_ hk => ⟨⟨hk.1.2, hk.2⟩, hk.1.1.2⟩)))
              (case aF => exact (fun k_ hk => ⟨Kd.freshB (g := gb370) (o := .cells #[.int .i64 0, .int .i64 0, .int .i64 0, .slice none 0 0] 25 (0, 0)) (bk BK370) k_ hk, Kd.freshB (g := gb387) (o := .cells #[.int .i64 x8_33, .int .i64 0, .int .i64 0, u388003] 25 (0, 0)) (bk BK387) k_ hk⟩))
              (case aO => exact (by (with_reducible repeat (first | apply Kd.R_alloc | apply Kd.R_drewN | apply Kd.R_drew)); exact Kd.R_mono HO_388003.out (fun _ hk => ⟨hk.1.1, hk.1.2⟩)))
              (case aS => exact (keep_size (w := w) (g := g) (row := none) (hzk HK)))
              (case aL => have := LMc43.out; omega)
              intro v397 w47 ho hb hg hat
              rw [← Ny396.out] at ho
              have n0_ := Aside0.mk (blk_grown (g := gb370) (o := .cells #[.int .i64 0, .int .i64 0, .int .i64 0, .slice none 0 0] 25 (0, 0)) (bk BK370) hg (Kd.R_away HO_388003.out (fun _ hk => hk.1.1)))
              have n1_ := Aside0.mk (blk_grown (g := gb387) (o := .cells #[.int .i64 x8_33, .int .i64 0, .int .i64 0, u388003] 25 (0, 0)) (bk BK387) hg (Kd.R_away HO_388003.out (fun _ hk => hk.1.2)))
              have n2_ := Aside0.mk (IsS72.grown (IsS72.go_ HI0) hg (IsS72.own_ne HI0.out HO_388003.out (by decide)))
              have n3_ := Aside0.mk (below_weaken (hzI HB) HL.out hb)
              have n4_ := Aside0.mk (KeepBut.trans (hzk HK) (KeepBut.of_grown hg g) (Kd.R_base2 HO_388003.out))
              have n5_ := Aside0.mk (ho)
              clear BK370
              clear BK387
              clear HI0
              clear HB
              clear HK
              clear HO_388003
              clear HO394
              have BK370 := n0_
              have BK387 := n1_
              have HI0 := n2_
              have HB := n3_
              have HK := n4_
              have HO398 := n5_
              clear n0_ n1_ n2_ n3_ n4_ n5_
              clear ho hb hg hat
              obtain ⟨Ao49, co49, eo49⟩ := Kd.R_slice HO398.out
              (first | subst eo49 | (injection eo49 with f1_ f2_ f3_; have f4_ := f1_.symm; have f5_ := f3_.symm; clear f1_ f2_ f3_; subst f4_; subst f5_))
              refine hK.out _ _ ⟨cw0 BK387, cw1 BK387, (blk_cell BK387.out 2).trans rfl, (blk_cell BK387.out 3).trans rfl⟩ (fun hHeld => ?_)
              clear hK K
              refine nP ?_
              refine pU 9 67 #[true, true, true, true, true, true, true, true, true, true, false] HT_ ?_
              refine last_ (i := 10) (N := none) #[true, true, true, true, true, true, true, true, true, true, true] rfl rfl (one_of HT_.out (by kernel_rfl)) (by decide) (fun K hK => ?_)
              have hs50 : w47.cell? ⟨gb387, 3, none⟩ = some (u388003) := (blk_cell BK387.out 3).trans rfl
              have hfs50 := blk_frozen BK387.out 3
              have hns50_0 := NB370_387.out
              have hms50_0 := NB387_370.out
              refine skip_ (w1 := ?_) (by rfl) rfl ?_ ?_
              rotate_left
              ·go_simp
               rfl
              refine hK.out _ _ ?_
              clear hK K
              refine done_ (done_of HT_.out (by kernel_rfl)) ?_
              try go_wp2
              go_roundg k4
              case measure => have := HJ3.out; have := HJ27.out; have := HJ33.out; have := HK4.out; omega
              case rel => exact ⟨(wrap64 (x10_4 + 1)), (t395), (y396), (.slice Ao49 y396.length co49), (by first | rfl | (simp; done) | (simp [*]; done)), H', ⟨by have := HJ3.out; have := HJ27.out; have := HJ33.out; have := HK4.out; omega⟩, ⟨by (with_reducible repeat (first | apply Kd.R_alloc | apply Kd.R_drewN | apply Kd.R_drew)); exact Kd.R_mono (Kd.R_far (p := ⟨gb387, 3, none⟩) (Kd.R_mono HO398.out (fun k_ hk => (⟨hk, hk.2⟩ : _ ∧ k_ ≠ gb387))) (fun _ hk => hk.2) (.slice Ao49 y396.length co49)) (fun _ hk => ⟨hk.1.1, hk.1.2⟩)⟩, ⟨bk1 BK370 NB370_387⟩, ⟨by (with_reducible repeat (first | refine blk_drewN ?_ _ | refine blk_drew ?_ | refine blk_alloc ?_ _)); refine blk_put (cs := #[.int .i64 x8_33, .int .i64 0, .int .i64 0, u388003]) ?_ 3 _ rfl; (with_reducible repeat (first | refine blk_drewN ?_ _ | refine blk_drew ?_ | refine blk_alloc ?_ _)); exact BK387.out⟩, ⟨IsS72.go_ HI0⟩, ⟨hzk HK⟩, ⟨hzI HB⟩⟩
             ·rw [if_neg c43] at H
              exact absurd H (by simp)
            ·rw [if_neg c41] at H
             have c41b0 : decide (x10_4 < t388) = false := decide_eq_false c41
             clear c41
             simp only [Option.some.injEq, Prod.mk.injEq] at H
             obtain ⟨rfl, rfl, rfl, rfl, rfl⟩ := H
             go_wp2_with (first | ((with_reducible refine gate_callee (f := 66) rfl ?_); refine gL 54 Try.func66 #[.int .i64 x8_33] ?_; (with_reducible refine (spec_l31Kids.calls x8_33 t388 _ A40.out).mono ?_); rintro e w51 ⟨rfl, hb⟩; refine ⟨_, rfl, ?_⟩; replace HO_388003 := Aside0.mk (Kd.R_below (by (with_reducible repeat (first | apply Kd.R_alloc | apply Kd.R_drewN | apply Kd.R_drew)); exact HO_388003.out) hb); replace BK370 := bb (bk BK370) hb; replace BK387 := bb (bk BK387) hb; replace HI0 := Aside0.mk (IsS72.below (IsS72.go_ HI0) hb); replace HK := Aside0.mk (KeepBut.trans (hzk HK) (KeepBut.of_below hb g none) (.inl rfl)); replace HB := hbb (hzI HB) hb; clear hb; have hnb52 := NB387_370.out; have hnc52 := NB370_387.out; have hnb53 := NB387_0.out; have hnc53 := NB0_387.out; obtain ⟨hcz54_0, hcz54_1, hcz54_2, hcz54_3, hfz54_0, hfz54_1, hfz54_2, hfz54_3⟩ := cz4 BK387; have hnb55 := NB370_0.out; have hnc55 := NB0_370.out; obtain ⟨hcz56_0, hcz56_1, hcz56_2, hcz56_3, hfz56_0, hfz56_1, hfz56_2, hfz56_3⟩ := cz4 BK370; obtain ⟨Ao57, co57, eo57⟩ := Kd.R_slice HO_388003.out; subst eo57))
             refine bodyPost_ret (results_cell_row rfl _ _ gb370 25 #[.int .i64 x8_33, .int .i64 0, .int .i64 0, .slice Ao57 x388003_4.length co57] (0, 0) _ rfl (by (with_reducible repeat (first | refine blk_drewN ?_ _ | refine blk_drew ?_ | refine blk_alloc ?_ _)); refine blk_put (cs := #[.int .i64 x8_33, .int .i64 0, .int .i64 0, .slice none 0 0]) ?_ 3 _ rfl; (with_reducible repeat (first | refine blk_drewN ?_ _ | refine blk_drew ?_ | refine blk_alloc ?_ _)); refine blk_put (cs := #[.int .i64 x8_33, .int .i64 0, .int .i64 0, .slice none 0 0]) ?_ 2 _ rfl; (with_reducible repeat (first | refine blk_drewN ?_ _ | refine blk_drew ?_ | refine blk_alloc ?_ _)); refine blk_put (cs := #[.int .i64 x8_33, .int .i64 0, .int .i64 0, .slice none 0 0]) ?_ 1 _ rfl; (with_reducible repeat (first | refine blk_drewN ?_ _ | refine blk_drew ?_ | refine blk_alloc ?_ _)); refine blk_put (cs := #[.int .i64 0, .int .i64 0, .int .i64 0, .slice none 0 0]) ?_ 0 _ rfl; (with_reducible repeat (first | refine blk_drewN ?_ _ | refine blk_drew ?_ | refine blk_alloc ?_ _)); exact BK370.out) Try.underlying25 rfl (by kernel_rfl)) rfl ?_
             exact ⟨_, by first | rfl | (simp [errW_none, errW_some] <;> rfl) | (simp [*, errW_none, errW_some] <;> rfl), by (with_reducible repeat (first | apply Kd.R_alloc | apply Kd.R_drewN | apply Kd.R_drew)); exact Kd.R_mono (Kd.R_far (p := ⟨gb370, 3, none⟩) (Kd.R_far (p := ⟨gb370, 2, none⟩) (Kd.R_far (p := ⟨gb370, 1, none⟩) (Kd.R_far (p := ⟨gb370, 0, none⟩) (Kd.R_mono HO_388003.out (fun k_ hk => (⟨hk, hk.1⟩ : _ ∧ k_ ≠ gb370))) (fun _ hk => hk.2) (.int .i64 x8_33)) (fun _ hk => hk.2) (.int .i64 0)) (fun _ hk => hk.2) (.int .i64 0)) (fun _ hk => hk.2) (.slice Ao57 x388003_4.length co57)) (fun _ hk => trivial), IsS72.go_ HI0, hzI HB, hzk HK⟩
     ·rw [if_neg c27] at H
      exact absurd H (by simp)
    ·rw [if_neg c26] at H
     exact absurd H (by simp)


end Go.Proofs.Ytlodpfddimeffaa.M
