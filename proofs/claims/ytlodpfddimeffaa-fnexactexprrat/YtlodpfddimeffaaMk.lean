import Derived.Test.YtlodpfddimeffaaM0
import Derived.Test.YtlodpfddimeffaaMa
import Derived.Test.YtlodpfddimeffaaMe
namespace Go.Proofs.Ytlodpfddimeffaa.M
open Go.RowKit Go.Proofs.YtlodpfddimeffaaW.PrintWords Go.Proofs.YtlodpfddimeffaaW.PrintLast Go.Proofs.YtlodpfddimeffaaW.PrintMore
attribute [local go_sem] max2_int min2_int max_two min_two max_three min_three max_four min_four
attribute [local go_sem high] eqA31
attribute [local go_sem] fld31_0 fld31_1 fld25_0 fld25_1 fld25_2 fld25_3
set_option linter.unusedVariables false
set_option linter.unusedSimpArgs false

/-! ### impl_common: function 92 -/
def impl_common.l0 : Nat → Int → Int → Option (Int)
 | 0, _, _ => none
 | k + 1, x0, x1 => if x1 = 0 then (some (mx x0 (wrap64 (-x0)))) else (impl_common.l0 k x1 (Int.tmod x0 x1))
def impl_common.f (k : Nat) (a0 : Int) (a1 : Int) : Option (Int) := impl_common.l0 k a0 a1
set_option maxHeartbeats 8000000 in
set_option maxRecDepth 100000 in
theorem impl_common.calls (k : Nat) (a0 : Int) (a1 : Int) (r : Int) (w : World) (h : impl_common.f k a0 a1 = some r) :
  Calls Try.prog 92 #[.int .i64 a0, .int .i64 a1] w fun e w' => e = .returned (.int .i64 r) ∧ Below w.heap.size w w' := by
 have HB := Aside0.mk (Below.refl w.heap.size w)
 have H := h
 clear h
 unfold impl_common.f at H
 have H' := Aside0.mk H
 clear H
 go_enter Try.func92, Try.ntmps92
 go_wp2
 repeat (go_quiet (fail); try go_wp2)
 go_loopg [0, 1] k (fun kq v0 v1 w' => ∃ (x0_1 : Int) (x1_1 : Int), v0 = .int .i64 x0_1 ∧ v1 = .int .i64 x1_1 ∧ Aside0 (impl_common.l0 kq x0_1 x1_1 = some r) ∧ Aside0 (kq ≤ k) ∧ Aside0 (Below w.heap.size w w'))
 case atStart => exact ⟨(a0), (a1), (by first | rfl | (simp; done) | (simp [*]; done)), (by first | rfl | (simp; done) | (simp [*]; done)), H', ⟨Nat.le_refl _⟩, ⟨hz0 HB⟩⟩
 case round =>
  clear H'
  try clear p2
  obtain ⟨x0_1, x1_1, rfl, rfl, HA, HK1, HB⟩ := hrel
  cases gk with
  | zero => exact absurd HA.out (by simp [impl_common.l0])
  | succ k1 =>
   have H := HA.out
   clear HA
   simp only [impl_common.l0] at H
   by_cases c3 : x1_1 = 0
   ·rw [if_pos c3] at H
    have c3b0 : (x1_1 == 0) = true := beq_iff_eq.mpr c3
    have c3b1 : (x1_1 != 0) = false := bne_eq_false_iff_eq.mpr c3
    clear c3
    obtain ⟨ji4, hji4⟩ : ∃ j_ : Int, (mx x0_1 (wrap64 (-x0_1))) = j_ := ⟨_, rfl⟩
    first | rw [hji4] at H | simp only [hji4] at H
    have hji4_ : (if x0_1 < (wrap64 (-x0_1)) then (wrap64 (-x0_1)) else x0_1) = ji4 := hji4
    obtain rfl := Option.some.inj H
    go_wp2
    repeat (go_quiet (fail); try go_wp2)
    go_ret
    exact ⟨by first | rfl | (simp [errW_none, errW_some] <;> rfl) | (simp only [← hji4]; first | rfl | (simp [errW_none, errW_some] <;> rfl)) | (simp [*, errW_none, errW_some] <;> rfl), hz0 HB⟩
   ·rw [if_neg c3] at H
    have c3b0 : (x1_1 == 0) = false := beq_eq_false_iff_ne.mpr c3
    have c3b1 : (x1_1 != 0) = true := bne_iff_ne.mpr c3
    have H' := Aside0.mk H
    clear H
    go_wp2
    repeat (go_quiet (fail); try go_wp2)
    go_roundg k1
    case measure => have := HK1.out; omega
    case rel => exact ⟨(x1_1), (Int.tmod x0_1 x1_1), (by first | rfl | (simp; done) | (simp [*]; done)), (by first | rfl | (simp; done) | (simp [*]; done)), H', ⟨by have := HK1.out; omega⟩, ⟨hz0 HB⟩⟩


/-! ### impl_least: function 71 -/
def impl_least.j0 : Nat → Int → Int → Option (Int × Int × Bool)
 | 0, _, _ => none
 | k + 1, x0, x1 => (impl_common.f k x0 x1).bind fun t180 => (if t180 = 0 then (none) else ((impl_isNumber.f (wrap64 (Int.tdiv x0 t180)) (wrap64 (Int.tdiv x1 t180))).bind fun t181 => (if t181 = true then (some (wrap64 (Int.tdiv x0 t180), wrap64 (Int.tdiv x1 t180), true)) else (some (0, 0, false)))))
def impl_least.f (k : Nat) (a0 : Int) (a1 : Int) : Option (Int × Int × Bool) := if a1 = 0 then (some (0, 0, false)) else (if a1 < 0 then (impl_least.j0 k (wrap64 (-a0)) (wrap64 (-a1))) else (impl_least.j0 k a0 a1))
set_option maxHeartbeats 8000000 in
set_option maxRecDepth 100000 in
theorem impl_least.calls (k : Nat) (a0 : Int) (a1 : Int) (r1 : Int) (r2 : Int) (r3 : Bool) (w : World) (h : impl_least.f k a0 a1 = some (r1, r2, r3)) :
  Calls Try.prog 71 #[.int .i64 a0, .int .i64 a1] w fun e w' => e = .returned (.tuple #[.int .i64 r1, .int .i64 r2, .bool r3]) ∧ Below w.heap.size w w' := by
 have HB := Aside0.mk (Below.refl w.heap.size w)
 have H := h
 clear h
 unfold impl_least.f at H
 by_cases c3 : a1 = 0
 ·rw [if_pos c3] at H
  have c3b0 : (a1 == 0) = true := beq_iff_eq.mpr c3
  have c3b1 : (a1 != 0) = false := bne_eq_false_iff_eq.mpr c3
  clear c3
  simp only [Option.some.injEq, Prod.mk.injEq] at H
  obtain ⟨rfl, rfl, rfl⟩ := H
  go_enter Try.func71, Try.ntmps71
  go_wp2
  repeat (go_quiet (fail); try go_wp2)
  go_ret3
  exact ⟨by first | rfl | (simp [errW_none, errW_some] <;> rfl) | (simp [*, errW_none, errW_some] <;> rfl), hz0 HB⟩
 ·rw [if_neg c3] at H
  have c3b0 : (a1 == 0) = false := beq_eq_false_iff_ne.mpr c3
  have c3b1 : (a1 != 0) = true := bne_iff_ne.mpr c3
  have HC4 := Aside0.mk H
  clear H
  go_enter Try.func71, Try.ntmps71
  go_upto_if 11 with (fail)
  repeat (go_quiet (fail); go_upto_if 11 with (fail))
  go_cut [0, 1] (fun v0 v1 wc => ∃ (kq : Nat) (x0_3 : Int) (x1_3 : Int), v0 = .int .i64 x0_3 ∧ v1 = .int .i64 x1_3 ∧ Aside0 (impl_least.j0 kq x0_3 x1_3 = some (r1, r2, r3)) ∧ Aside0 (kq ≤ k) ∧ Aside0 (Below w.heap.size w wc))
  case first =>
   have H := HC4.out
   clear HC4
   by_cases c5 : a1 < 0
   ·rw [if_pos c5] at H
    have c5b0 : decide (a1 < 0) = true := decide_eq_true c5
    clear c5
    (first | rw [c5b0] | (simp only [i64_w, i32_w]; rw [c5b0]) | skip)
    have H' := Aside0.mk H
    clear H
    go_wp2
    repeat (go_quiet (fail); try go_wp2)
    go_meet
    case rel => exact ⟨_, (wrap64 (-a0)), (wrap64 (-a1)), (by first | rfl | (simp; done) | (simp [*]; done)), (by first | rfl | (simp; done) | (simp [*]; done)), H', ⟨by first | omega | exact Nat.le_refl _⟩, ⟨hz0 HB⟩⟩
   ·rw [if_neg c5] at H
    have c5b0 : decide (a1 < 0) = false := decide_eq_false c5
    clear c5
    (first | rw [c5b0] | (simp only [i64_w, i32_w]; rw [c5b0]) | skip)
    have H' := Aside0.mk H
    clear H
    go_wp2
    repeat (go_quiet (fail); try go_wp2)
    go_meet
    case rel => exact ⟨_, (a0), (a1), (by first | rfl | (simp; done) | (simp [*]; done)), (by first | rfl | (simp; done) | (simp [*]; done)), H', ⟨by first | omega | exact Nat.le_refl _⟩, ⟨hz0 HB⟩⟩
  case rest =>
   clear HC4
   try clear p2
   try clear c3
   try clear c3b0
   try clear c3b1
   try clear c5
   try clear c5b0
   obtain ⟨kq, x0_3, x1_3, rfl, rfl, HA, HJ3, HB⟩ := hcut
   cases kq with
   | zero => exact absurd HA.out (by simp [impl_least.j0])
   | succ kj3 =>
    have H := HA.out
    clear HA
    simp only [impl_least.j0] at H
    replace H := Option.bind_eq_some_iff.mp H
    obtain ⟨t180, A60, H⟩ := H
    try dsimp only at H
    have A6 := Aside0.mk A60
    clear A60
    by_cases c7 : t180 = 0
    ·rw [if_pos c7] at H
     exact absurd H (by simp)
    ·rw [if_neg c7] at H
     have c7b0 : (t180 == 0) = false := beq_eq_false_iff_ne.mpr c7
     have c7b1 : (t180 != 0) = true := bne_iff_ne.mpr c7
     replace H := Option.bind_eq_some_iff.mp H
     obtain ⟨t181, A80, H⟩ := H
     try dsimp only at H
     have A8 := Aside0.mk A80
     clear A80
     by_cases c9 : t181 = true
     ·subst c9
      rw [if_pos rfl] at H
      simp only [Option.some.injEq, Prod.mk.injEq] at H
      obtain ⟨rfl, rfl, rfl⟩ := H
      go_wp2_with (first | (go_at_call 92; (with_reducible refine (impl_common.calls kj3 x0_3 x1_3 t180 _ A6.out).mono ?_); rintro e w10 ⟨rfl, hb⟩; replace HB := hbb (hz0 HB) hb; clear hb) | (go_at_call 51; (with_reducible refine (impl_isNumber.calls (wrap64 (Int.tdiv x0_3 t180)) (wrap64 (Int.tdiv x1_3 t180)) true _ A8.out).mono ?_); rintro e w' ⟨rfl, ⟨nd, rfl⟩⟩; (try first | exact ⟨rfl, _, World.drewN_drewN _ _ _⟩ | exact ⟨rfl, _, Eq.trans (World.drewN_drewN _ _ _) (congrArg (World.drewN _) (Nat.add_assoc _ _ _))⟩)))
      repeat (go_quiet (first | (go_at_call 92; (with_reducible refine (impl_common.calls kj3 x0_3 x1_3 t180 _ A6.out).mono ?_); rintro e w10 ⟨rfl, hb⟩; replace HB := hbb (hz0 HB) hb; clear hb) | (go_at_call 51; (with_reducible refine (impl_isNumber.calls (wrap64 (Int.tdiv x0_3 t180)) (wrap64 (Int.tdiv x1_3 t180)) true _ A8.out).mono ?_); rintro e w' ⟨rfl, ⟨nd, rfl⟩⟩; (try first | exact ⟨rfl, _, World.drewN_drewN _ _ _⟩ | exact ⟨rfl, _, Eq.trans (World.drewN_drewN _ _ _) (congrArg (World.drewN _) (Nat.add_assoc _ _ _))⟩))); try go_wp2_with (first | (go_at_call 92; (with_reducible refine (impl_common.calls kj3 x0_3 x1_3 t180 _ A6.out).mono ?_); rintro e w10 ⟨rfl, hb⟩; replace HB := hbb (hz0 HB) hb; clear hb) | (go_at_call 51; (with_reducible refine (impl_isNumber.calls (wrap64 (Int.tdiv x0_3 t180)) (wrap64 (Int.tdiv x1_3 t180)) true _ A8.out).mono ?_); rintro e w' ⟨rfl, ⟨nd, rfl⟩⟩; (try first | exact ⟨rfl, _, World.drewN_drewN _ _ _⟩ | exact ⟨rfl, _, Eq.trans (World.drewN_drewN _ _ _) (congrArg (World.drewN _) (Nat.add_assoc _ _ _))⟩))))
      go_ret3
      exact ⟨by first | rfl | (simp [errW_none, errW_some] <;> rfl) | (simp [*, errW_none, errW_some] <;> rfl), hz0 HB⟩
     ·replace c9 := Bool.eq_false_iff.mpr c9
      subst c9
      rw [if_neg (show ¬ (false = true) by decide)] at H
      simp only [Option.some.injEq, Prod.mk.injEq] at H
      obtain ⟨rfl, rfl, rfl⟩ := H
      go_wp2_with (first | (go_at_call 92; (with_reducible refine (impl_common.calls kj3 x0_3 x1_3 t180 _ A6.out).mono ?_); rintro e w11 ⟨rfl, hb⟩; replace HB := hbb (hz0 HB) hb; clear hb) | (go_at_call 51; (with_reducible refine (impl_isNumber.calls (wrap64 (Int.tdiv x0_3 t180)) (wrap64 (Int.tdiv x1_3 t180)) false _ A8.out).mono ?_); rintro e w' ⟨rfl, ⟨nd, rfl⟩⟩; (try first | exact ⟨rfl, _, World.drewN_drewN _ _ _⟩ | exact ⟨rfl, _, Eq.trans (World.drewN_drewN _ _ _) (congrArg (World.drewN _) (Nat.add_assoc _ _ _))⟩)))
      repeat (go_quiet (first | (go_at_call 92; (with_reducible refine (impl_common.calls kj3 x0_3 x1_3 t180 _ A6.out).mono ?_); rintro e w11 ⟨rfl, hb⟩; replace HB := hbb (hz0 HB) hb; clear hb) | (go_at_call 51; (with_reducible refine (impl_isNumber.calls (wrap64 (Int.tdiv x0_3 t180)) (wrap64 (Int.tdiv x1_3 t180)) false _ A8.out).mono ?_); rintro e w' ⟨rfl, ⟨nd, rfl⟩⟩; (try first | exact ⟨rfl, _, World.drewN_drewN _ _ _⟩ | exact ⟨rfl, _, Eq.trans (World.drewN_drewN _ _ _) (congrArg (World.drewN _) (Nat.add_assoc _ _ _))⟩))); try go_wp2_with (first | (go_at_call 92; (with_reducible refine (impl_common.calls kj3 x0_3 x1_3 t180 _ A6.out).mono ?_); rintro e w11 ⟨rfl, hb⟩; replace HB := hbb (hz0 HB) hb; clear hb) | (go_at_call 51; (with_reducible refine (impl_isNumber.calls (wrap64 (Int.tdiv x0_3 t180)) (wrap64 (Int.tdiv x1_3 t180)) false _ A8.out).mono ?_); rintro e w' ⟨rfl, ⟨nd, rfl⟩⟩; (try first | exact ⟨rfl, _, World.drewN_drewN _ _ _⟩ | exact ⟨rfl, _, Eq.trans (World.drewN_drewN _ _ _) (congrArg (World.drewN _) (Nat.add_assoc _ _ _))⟩))))
      go_ret3
      exact ⟨by first | rfl | (simp [errW_none, errW_some] <;> rfl) | (simp [*, errW_none, errW_some] <;> rfl), hz0 HB⟩


/-! ### impl_Expr_rat: function 50 -/
def impl_Expr_rat.op (k : Nat) (f0 f1 f2 n0 n1 d0 d1 : Int) : Option (Int × Int × Bool) :=
  if f0 = 1 then impl_least.f k f1 f2 else if f0 = 2 then some (wrap64 (-n0), d0, true) else if f0 = 5 then ((impl_in.f (wrap64 (n0 * d1)) (-576460752303423488) 576460752303423488).bind fun a => if a = true then ((impl_in.f (wrap64 (n1 * d0)) (-576460752303423488) 576460752303423488).bind fun b => if b = true then impl_least.f k (wrap64 ((wrap64 (n0 * d1)) + (wrap64 (n1 * d0)))) (wrap64 (d0 * d1)) else some (0, 0, false)) else some (0, 0, false)) else if f0 = 6 then ((impl_in.f (wrap64 (n0 * d1)) (-576460752303423488) 576460752303423488).bind fun a => if a = true then ((impl_in.f (wrap64 (n1 * d0)) (-576460752303423488) 576460752303423488).bind fun b => if b = true then impl_least.f k (wrap64 ((wrap64 (n0 * d1)) - (wrap64 (n1 * d0)))) (wrap64 (d0 * d1)) else some (0, 0, false)) else some (0, 0, false)) else if f0 = 7 then impl_least.f k (wrap64 (n0 * n1)) (wrap64 (d0 * d1)) else if f0 = 8 then impl_least.f k (wrap64 (n0 * d1)) (wrap64 (n1 * d0)) else some (0, 0, false)
mutual
def impl_Expr_rat.l0 : Nat → Int → Int → Int → Int → Int → Int → Int → Int → List S25 → Option (Int × Int × Bool)
  | 0, _, _, _, _, _, _, _, _, _ => none
  | k + 1, n0, n1, d0, d1, i, f0, f1, f2, l => if i < (l.length : Int) then (if i = 0 then ((impl_Expr_rat.f k (rd_T25 l 0).f0 (rd_T25 l 0).f1 (rd_T25 l 0).f2 (rd_T25 l 0).f3).bind fun b => if b.2.2 = true then impl_Expr_rat.l0 k b.1 n1 b.2.1 d1 1 f0 f1 f2 l else some (0, 0, false))
      else if i = 1 then ((impl_Expr_rat.f k (rd_T25 l 1).f0 (rd_T25 l 1).f1 (rd_T25 l 1).f2 (rd_T25 l 1).f3).bind fun b => if b.2.2 = true then impl_Expr_rat.l0 k n0 b.1 d0 b.2.1 2 f0 f1 f2 l else some (0, 0, false)) else none) else impl_Expr_rat.op k f0 f1 f2 n0 n1 d0 d1
def impl_Expr_rat.f : Nat → Int → Int → Int → List S25 → Option (Int × Int × Bool)
  | 0, _, _, _, _ => none
  | k + 1, f0, f1, f2, l => impl_Expr_rat.l0 k 0 0 0 0 0 f0 f1 f2 l
end
set_option maxHeartbeats 16000000 in
set_option maxRecDepth 100000 in
theorem impl_Expr_rat.calls (k : Nat) : ∀ (a0_0 : Int) (a0_1 : Int) (a0_2 : Int) (A0_3 : Option Addr) (c0_3 : Nat) (l0_3 : List (S25)) (r1 : Int) (r2 : Int) (r3 : Bool) (w : World) (hr0_3 : Kd.C k25 w A0_3 l0_3.length l0_3) (hc0_3 : l0_3.length ≤ c0_3) (h : impl_Expr_rat.f k a0_0 a0_1 a0_2 l0_3 = some (r1, r2, r3)),
  Calls Try.prog 50 #[.agg #[.int .i64 a0_0, .int .i64 a0_1, .int .i64 a0_2, .slice A0_3 l0_3.length c0_3]] w fun e w' => e = .returned (.tuple #[.int .i64 r1, .int .i64 r2, .bool r3]) ∧ Below w.heap.size w w' := by
 induction k using Nat.strongRecOn with
 | _ k ih =>
 intro a0_0 a0_1 a0_2 A0_3 c0_3 l0_3 r1 r2 r3 w hr0_3 hc0_3 h
 cases k with
 | zero => exact absurd h (by simp [impl_Expr_rat.f])
 | succ k =>
 simp only [impl_Expr_rat.f] at h
 have hu25 := Try.underlying25
 have hu82 := Try.underlying82
 have HR0_3 := Aside0.mk hr0_3
 have HC0_3 := Aside0.mk hc0_3
 clear hr0_3 hc0_3
 have HB := Aside0.mk (Below.refl w.heap.size w)
 have H' := Aside0.mk h
 clear h
 go_enter Try.func50, Try.ntmps50
 go_wp2_with (first | ((with_reducible refine gate_dst (N := 1) rfl ?_); refine bE 1 #[.int .i64 a0_0, .int .i64 a0_1, .int .i64 a0_2, .slice A0_3 l0_3.length c0_3] 25 ?_; intro g1 hg w1 hbox hb; have BK1 := Aside0.mk hbox; have GE1 := gw hg (hzs HB); replace HB := hbb (hzs HB) hb; clear hb hbox hg) | ((with_reducible refine gate_dst (N := 5) rfl ?_); refine bE 5 #[.int .i64 0, .int .i64 0] 82 ?_; intro g5 hg w5 hbox hb; have BK5 := Aside0.mk hbox; have GE5 := gw hg (hzs HB); have NB1_5 := nl hg (bk BK1); have NB5_1 := ng hg (bk BK1); replace BK1 := bb (bk BK1) hb; replace HB := hbb (hzs HB) hb; clear hb hbox hg) | ((with_reducible refine gate_dst (N := 6) rfl ?_); refine bE 6 #[.int .i64 0, .int .i64 0] 82 ?_; intro g6 hg w6 hbox hb; have BK6 := Aside0.mk hbox; have GE6 := gw hg (hzs HB); have NB1_6 := nl hg (bk BK1); have NB6_1 := ng hg (bk BK1); have NB5_6 := nl hg (bk BK5); have NB6_5 := ng hg (bk BK5); replace BK1 := bb (bk BK1) hb; replace BK5 := bb (bk BK5) hb; replace HB := hbb (hzs HB) hb; clear hb hbox hg; obtain ⟨hcz1, hcz2, hcz3, hcz4, hfz1, hfz2, hfz3, hfz4⟩ := cz4 BK1))
 go_loopg [17] k (fun kq v17 w' => ∃ (i : Int) (n0 : Int) (n1 : Int) (d0 : Int) (d1 : Int), v17 = .int .i64 i ∧ Aside0 (impl_Expr_rat.l0 kq n0 n1 d0 d1 i a0_0 a0_1 a0_2 l0_3 = some (r1, r2, r3)) ∧ Aside0 (kq ≤ k) ∧ Aside0 (w'.heap[g1]? = some (.cells #[.int .i64 a0_0, .int .i64 a0_1, .int .i64 a0_2, (.slice A0_3 l0_3.length c0_3)] 25 (0, 0))) ∧ Aside0 (w'.heap[g5]? = some (.cells #[.int .i64 n0, .int .i64 n1] 82 (0, 0))) ∧ Aside0 (w'.heap[g6]? = some (.cells #[.int .i64 d0, .int .i64 d1] 82 (0, 0))) ∧ Aside0 (Below w.heap.size w w'))
 case atStart => exact ⟨0, 0, 0, 0, 0, (by first | rfl | (simp; done) | (simp [*]; done)), H', ⟨Nat.le_refl _⟩, ⟨bk BK1⟩, ⟨bk BK5⟩, ⟨bk BK6⟩, ⟨hzs HB⟩⟩
 case round =>
  clear H'
  try clear hcz1 hfz1
  try clear hcz2 hfz2
  try clear hcz3 hfz3
  try clear hcz4 hfz4
  obtain ⟨i, n0, n1, d0, d1, rfl, HA, HK1, BK1, BK5, BK6, HB⟩ := hrel
  cases gk with
  | zero => exact absurd HA.out (by simp [impl_Expr_rat.l0])
  | succ k1 =>
   have H := HA.out
   clear HA
   rw [impl_Expr_rat.l0] at H
   by_cases c6 : i < (l0_3.length : Int)
   · rw [if_pos c6] at H
     have c6b0 : decide (i < (l0_3.length : Int)) = true := decide_eq_true c6
     by_cases e0 : i = 0
     · subst e0
       rw [if_pos rfl] at H
       replace H := Option.bind_eq_some_iff.mp H
       obtain ⟨⟨x, y, b⟩, A80, H⟩ := H
       have A8 := Aside0.mk A80
       clear A80
       cases b with
       | true =>
         rw [if_pos rfl] at H
         have H' := Aside0.mk H
         clear H
         have p9 : 0 ≤ (0 : Int) := (by omega)
         have q9 : 0 < (l0_3.length : Int) := c6
         have q9b : 0 < l0_3.length := (by omega)
         clear c6
         obtain ⟨ad9, A9_3, c9_3, e9, hx9_0, hx9_1, hx9_2, hx9_3, hl9_3, hi9_3⟩ := at_T25 HR0_3.out 0 p9 q9
         cases e9
         replace hx9_0 := (HB.out.cell (World.block_lt_of_cell? w _ hx9_0)).trans hx9_0
         replace hx9_1 := (HB.out.cell (World.block_lt_of_cell? w _ hx9_1)).trans hx9_1
         replace hx9_2 := (HB.out.cell (World.block_lt_of_cell? w _ hx9_2)).trans hx9_2
         replace hx9_3 := (HB.out.cell (World.block_lt_of_cell? w _ hx9_3)).trans hx9_3
         have HR9_3 := Aside0.mk hi9_3
         have HC9_3 := Aside0.mk hl9_3
         clear hi9_3 hl9_3
         (try rw [show ((0 : Int)).toNat = 0 from rfl] at hx9_0)
         (try rw [show 0 * 4 = 0 from rfl] at hx9_0)
         (try rw [Addr.add_zero'] at hx9_0)
         (try rw [show ((0 : Int)).toNat = 0 from rfl] at hx9_1)
         (try rw [show 0 * 4 = 0 from rfl] at hx9_1)
         (try rw [Addr.add_zero'] at hx9_1)
         (try rw [show ((0 : Int)).toNat = 0 from rfl] at hx9_2)
         (try rw [show 0 * 4 = 0 from rfl] at hx9_2)
         (try rw [Addr.add_zero'] at hx9_2)
         (try rw [show ((0 : Int)).toNat = 0 from rfl] at hx9_3)
         (try rw [show 0 * 4 = 0 from rfl] at hx9_3)
         (try rw [Addr.add_zero'] at hx9_3)
         replace p9 := eq_true p9
         replace q9 := eq_true q9
         replace q9b := eq_true q9b
         obtain ⟨hcz5, hcz6, hcz7, hcz8, hfz5, hfz6, hfz7, hfz8⟩ := cz4 BK1
         obtain ⟨hcz9, hcz10, hfz9, hfz10⟩ := cz2 BK5
         obtain ⟨hcz11, hcz12, hfz11, hfz12⟩ := cz2 BK6
         have hnb13 := NB1_5.out
         have hnc13 := NB5_1.out
         have hnb14 := NB1_6.out
         have hnc14 := NB6_1.out
         have hnb15 := NB5_6.out
         have hnc15 := NB6_5.out
         go_wp2_with (first | ((with_reducible refine gate_dst (N := 8) rfl ?_); refine bE 8 #[.int .i64 0, .int .i64 0, .int .i64 0, .slice none 0 0] 25 ?_; intro g8 hg w8 hbox hb; have BK8 := Aside0.mk hbox; have GE8 := gw hg (hzs HB); have NB1_8 := nl hg (bk BK1); have NB8_1 := ng hg (bk BK1); have NB5_8 := nl hg (bk BK5); have NB8_5 := ng hg (bk BK5); have NB6_8 := nl hg (bk BK6); have NB8_6 := ng hg (bk BK6); replace BK1 := bb (bk BK1) hb; replace BK5 := bb (bk BK5) hb; replace BK6 := bb (bk BK6) hb; replace HB := hbb (hzs HB) hb; clear hb hbox hg; obtain ⟨hcz16, hcz17, hcz18, hcz19, hfz16, hfz17, hfz18, hfz19⟩ := cz4 BK1; obtain ⟨hcz20, hcz21, hfz20, hfz21⟩ := cz2 BK5; obtain ⟨hcz22, hcz23, hfz22, hfz23⟩ := cz2 BK6; obtain ⟨hcz24, hcz25, hcz26, hcz27, hfz24, hfz25, hfz26, hfz27⟩ := cz4 BK8; have hnb28 := NB1_8.out; have hnc28 := NB8_1.out; have hnb29 := NB5_8.out; have hnc29 := NB8_5.out; have hnb30 := NB6_8.out; have hnc30 := NB8_6.out) | ((with_reducible refine gate_callee (f := 50) rfl ?_); refine gL 24 Try.func50 #[.agg #[.int .i64 ((rd_T25 l0_3 0).f0), .int .i64 ((rd_T25 l0_3 0).f1), .int .i64 ((rd_T25 l0_3 0).f2), .slice A9_3 ((rd_T25 l0_3 0).f3).length c9_3]] ?_; (with_reducible refine (ih k1 (by have := HK1.out; omega) ((rd_T25 l0_3 0).f0) ((rd_T25 l0_3 0).f1) ((rd_T25 l0_3 0).f2) _ _ ((rd_T25 l0_3 0).f3) x y true _ ?side1 ?side2 A8.out).mono ?_); (case side1 => exact Kd.C_below HR9_3.out (hzs HB)); (case side2 => exact HC9_3.out); rintro e w9 ⟨rfl, hb⟩; refine ⟨_, rfl, ?_⟩; replace BK1 := bb (bk1 BK1 NB1_8) hb; replace BK5 := bb (bk1 BK5 NB5_8) hb; replace BK6 := bb (bk1 BK6 NB6_8) hb; clear BK8; replace HB := hbb (hzs HB) hb; clear hb; obtain ⟨hcz31, hcz32, hfz31, hfz32⟩ := cz2 BK5; obtain ⟨hcz33, hcz34, hfz33, hfz34⟩ := cz2 BK6))
         go_roundg k1
         case measure => have := HK1.out; omega
         case rel => exact ⟨1, x, n1, y, d1, (by first | rfl | (simp; done) | (simp [*]; done) | decide), H', ⟨by have := HK1.out; omega⟩, ⟨bk2 BK1 NB1_5 NB1_6⟩, ⟨(by repeat (first | exact BK5.out | (with_reducible first | refine blk_drewN ?_ _ | refine blk_drew ?_ | refine blk_alloc ?_ _ | refine blk_far ?_ NB5_6.out _) | refine blk_put (cs := #[.int .i64 n0, .int .i64 n1]) ?_ 0 _ rfl))⟩, ⟨(by repeat (first | exact BK6.out | (with_reducible first | refine blk_drewN ?_ _ | refine blk_drew ?_ | refine blk_alloc ?_ _ | refine blk_far ?_ NB6_5.out _) | refine blk_put (cs := #[.int .i64 d0, .int .i64 d1]) ?_ 0 _ rfl))⟩, ⟨hzs HB⟩⟩
       | false =>
         rw [if_neg (show ¬ (false = true) by decide)] at H
         simp only [Option.some.injEq, Prod.mk.injEq] at H
         obtain ⟨rfl, rfl, rfl⟩ := H
         have p9 : 0 ≤ (0 : Int) := (by omega)
         have q9 : 0 < (l0_3.length : Int) := c6
         have q9b : 0 < l0_3.length := (by omega)
         clear c6
         obtain ⟨ad9, A9_3, c9_3, e9, hx9_0, hx9_1, hx9_2, hx9_3, hl9_3, hi9_3⟩ := at_T25 HR0_3.out 0 p9 q9
         cases e9
         replace hx9_0 := (HB.out.cell (World.block_lt_of_cell? w _ hx9_0)).trans hx9_0
         replace hx9_1 := (HB.out.cell (World.block_lt_of_cell? w _ hx9_1)).trans hx9_1
         replace hx9_2 := (HB.out.cell (World.block_lt_of_cell? w _ hx9_2)).trans hx9_2
         replace hx9_3 := (HB.out.cell (World.block_lt_of_cell? w _ hx9_3)).trans hx9_3
         have HR9_3 := Aside0.mk hi9_3
         have HC9_3 := Aside0.mk hl9_3
         clear hi9_3 hl9_3
         (try rw [show ((0 : Int)).toNat = 0 from rfl] at hx9_0)
         (try rw [show 0 * 4 = 0 from rfl] at hx9_0)
         (try rw [Addr.add_zero'] at hx9_0)
         (try rw [show ((0 : Int)).toNat = 0 from rfl] at hx9_1)
         (try rw [show 0 * 4 = 0 from rfl] at hx9_1)
         (try rw [Addr.add_zero'] at hx9_1)
         (try rw [show ((0 : Int)).toNat = 0 from rfl] at hx9_2)
         (try rw [show 0 * 4 = 0 from rfl] at hx9_2)
         (try rw [Addr.add_zero'] at hx9_2)
         (try rw [show ((0 : Int)).toNat = 0 from rfl] at hx9_3)
         (try rw [show 0 * 4 = 0 from rfl] at hx9_3)
         (try rw [Addr.add_zero'] at hx9_3)
         replace p9 := eq_true p9
         replace q9 := eq_true q9
         replace q9b := eq_true q9b
         obtain ⟨hcz35, hcz36, hcz37, hcz38, hfz35, hfz36, hfz37, hfz38⟩ := cz4 BK1
         obtain ⟨hcz39, hcz40, hfz39, hfz40⟩ := cz2 BK5
         obtain ⟨hcz41, hcz42, hfz41, hfz42⟩ := cz2 BK6
         have hnb43 := NB1_5.out
         have hnc43 := NB5_1.out
         have hnb44 := NB1_6.out
         have hnc44 := NB6_1.out
         have hnb45 := NB5_6.out
         have hnc45 := NB6_5.out
         go_wp2_with (first | ((with_reducible refine gate_dst (N := 8) rfl ?_); refine bE 8 #[.int .i64 0, .int .i64 0, .int .i64 0, .slice none 0 0] 25 ?_; intro g8 hg w8 hbox hb; have BK8 := Aside0.mk hbox; have GE8 := gw hg (hzs HB); have NB1_8 := nl hg (bk BK1); have NB8_1 := ng hg (bk BK1); have NB5_8 := nl hg (bk BK5); have NB8_5 := ng hg (bk BK5); have NB6_8 := nl hg (bk BK6); have NB8_6 := ng hg (bk BK6); replace BK1 := bb (bk BK1) hb; replace BK5 := bb (bk BK5) hb; replace BK6 := bb (bk BK6) hb; replace HB := hbb (hzs HB) hb; clear hb hbox hg; obtain ⟨hcz46, hcz47, hcz48, hcz49, hfz46, hfz47, hfz48, hfz49⟩ := cz4 BK1; obtain ⟨hcz50, hcz51, hfz50, hfz51⟩ := cz2 BK5; obtain ⟨hcz52, hcz53, hfz52, hfz53⟩ := cz2 BK6; obtain ⟨hcz54, hcz55, hcz56, hcz57, hfz54, hfz55, hfz56, hfz57⟩ := cz4 BK8; have hnb58 := NB1_8.out; have hnc58 := NB8_1.out; have hnb59 := NB5_8.out; have hnc59 := NB8_5.out; have hnb60 := NB6_8.out; have hnc60 := NB8_6.out) | ((with_reducible refine gate_callee (f := 50) rfl ?_); refine gL 24 Try.func50 #[.agg #[.int .i64 ((rd_T25 l0_3 0).f0), .int .i64 ((rd_T25 l0_3 0).f1), .int .i64 ((rd_T25 l0_3 0).f2), .slice A9_3 ((rd_T25 l0_3 0).f3).length c9_3]] ?_; (with_reducible refine (ih k1 (by have := HK1.out; omega) ((rd_T25 l0_3 0).f0) ((rd_T25 l0_3 0).f1) ((rd_T25 l0_3 0).f2) _ _ ((rd_T25 l0_3 0).f3) x y false _ ?side1 ?side2 A8.out).mono ?_); (case side1 => exact Kd.C_below HR9_3.out (hzs HB)); (case side2 => exact HC9_3.out); rintro e w9 ⟨rfl, hb⟩; refine ⟨_, rfl, ?_⟩; replace BK1 := bb (bk1 BK1 NB1_8) hb; replace BK5 := bb (bk1 BK5 NB5_8) hb; replace BK6 := bb (bk1 BK6 NB6_8) hb; clear BK8; replace HB := hbb (hzs HB) hb; clear hb; obtain ⟨hcz61, hcz62, hfz61, hfz62⟩ := cz2 BK5; obtain ⟨hcz63, hcz64, hfz63, hfz64⟩ := cz2 BK6))
         go_ret3
         exact ⟨by first | rfl | (simp [errW_none, errW_some] <;> rfl) | (simp [*, errW_none, errW_some] <;> rfl), hzs HB⟩
     · rw [if_neg e0] at H
       by_cases e1 : i = 1
       · subst e1
         rw [if_pos (show (1 : Int) = 1 from rfl)] at H
         replace H := Option.bind_eq_some_iff.mp H
         obtain ⟨⟨x, y, b⟩, A80, H⟩ := H
         have A8 := Aside0.mk A80
         clear A80
         cases b with
         | true =>
           rw [if_pos rfl] at H
           have H' := Aside0.mk H
           clear H
           have p9 : 0 ≤ (1 : Int) := (by omega)
           have q9 : 1 < (l0_3.length : Int) := c6
           have q9b : 1 < l0_3.length := (by omega)
           clear c6
           obtain ⟨ad9, A9_3, c9_3, e9, hx9_0, hx9_1, hx9_2, hx9_3, hl9_3, hi9_3⟩ := at_T25 HR0_3.out 1 p9 q9
           cases e9
           replace hx9_0 := (HB.out.cell (World.block_lt_of_cell? w _ hx9_0)).trans hx9_0
           replace hx9_1 := (HB.out.cell (World.block_lt_of_cell? w _ hx9_1)).trans hx9_1
           replace hx9_2 := (HB.out.cell (World.block_lt_of_cell? w _ hx9_2)).trans hx9_2
           replace hx9_3 := (HB.out.cell (World.block_lt_of_cell? w _ hx9_3)).trans hx9_3
           have HR9_3 := Aside0.mk hi9_3
           have HC9_3 := Aside0.mk hl9_3
           clear hi9_3 hl9_3
           (try simp only [show (1 : Int).toNat = 1 from rfl, Nat.reduceMul, Nat.reduceEqDiff, Go.Addr.add, ↓reduceIte] at hx9_0)
           (try rw [show ((1 : Int)).toNat = 1 from rfl] at hx9_0)
           (try rw [show 1 * 4 = 4 from rfl] at hx9_0)
           (try rw [Addr.add_zero'] at hx9_0)
           (try simp only [show (1 : Int).toNat = 1 from rfl, Nat.reduceMul, Nat.reduceEqDiff, Go.Addr.add, ↓reduceIte] at hx9_1)
           (try rw [show ((1 : Int)).toNat = 1 from rfl] at hx9_1)
           (try rw [show 1 * 4 = 4 from rfl] at hx9_1)
           (try rw [Addr.add_zero'] at hx9_1)
           (try simp only [show (1 : Int).toNat = 1 from rfl, Nat.reduceMul, Nat.reduceEqDiff, Go.Addr.add, ↓reduceIte] at hx9_2)
           (try rw [show ((1 : Int)).toNat = 1 from rfl] at hx9_2)
           (try rw [show 1 * 4 = 4 from rfl] at hx9_2)
           (try rw [Addr.add_zero'] at hx9_2)
           (try simp only [show (1 : Int).toNat = 1 from rfl, Nat.reduceMul, Nat.reduceEqDiff, Go.Addr.add, ↓reduceIte] at hx9_3)
           (try rw [show ((1 : Int)).toNat = 1 from rfl] at hx9_3)
           (try rw [show 1 * 4 = 4 from rfl] at hx9_3)
           (try rw [Addr.add_zero'] at hx9_3)
           replace p9 := eq_true p9
           replace q9 := eq_true q9
           replace q9b := eq_true q9b
           obtain ⟨hcz65, hcz66, hcz67, hcz68, hfz65, hfz66, hfz67, hfz68⟩ := cz4 BK1
           obtain ⟨hcz69, hcz70, hfz69, hfz70⟩ := cz2 BK5
           obtain ⟨hcz71, hcz72, hfz71, hfz72⟩ := cz2 BK6
           have hnb73 := NB1_5.out
           have hnc73 := NB5_1.out
           have hnb74 := NB1_6.out
           have hnc74 := NB6_1.out
           have hnb75 := NB5_6.out
           have hnc75 := NB6_5.out
           go_wp2_with (first | ((with_reducible refine gate_dst (N := 8) rfl ?_); refine bE 8 #[.int .i64 0, .int .i64 0, .int .i64 0, .slice none 0 0] 25 ?_; intro g8 hg w8 hbox hb; have BK8 := Aside0.mk hbox; have GE8 := gw hg (hzs HB); have NB1_8 := nl hg (bk BK1); have NB8_1 := ng hg (bk BK1); have NB5_8 := nl hg (bk BK5); have NB8_5 := ng hg (bk BK5); have NB6_8 := nl hg (bk BK6); have NB8_6 := ng hg (bk BK6); replace BK1 := bb (bk BK1) hb; replace BK5 := bb (bk BK5) hb; replace BK6 := bb (bk BK6) hb; replace HB := hbb (hzs HB) hb; clear hb hbox hg; obtain ⟨hcz76, hcz77, hcz78, hcz79, hfz76, hfz77, hfz78, hfz79⟩ := cz4 BK1; obtain ⟨hcz80, hcz81, hfz80, hfz81⟩ := cz2 BK5; obtain ⟨hcz82, hcz83, hfz82, hfz83⟩ := cz2 BK6; obtain ⟨hcz84, hcz85, hcz86, hcz87, hfz84, hfz85, hfz86, hfz87⟩ := cz4 BK8; have hnb88 := NB1_8.out; have hnc88 := NB8_1.out; have hnb89 := NB5_8.out; have hnc89 := NB8_5.out; have hnb90 := NB6_8.out; have hnc90 := NB8_6.out) | ((with_reducible refine gate_callee (f := 50) rfl ?_); refine gL 24 Try.func50 #[.agg #[.int .i64 ((rd_T25 l0_3 1).f0), .int .i64 ((rd_T25 l0_3 1).f1), .int .i64 ((rd_T25 l0_3 1).f2), .slice A9_3 ((rd_T25 l0_3 1).f3).length c9_3]] ?_; (with_reducible refine (ih k1 (by have := HK1.out; omega) ((rd_T25 l0_3 1).f0) ((rd_T25 l0_3 1).f1) ((rd_T25 l0_3 1).f2) _ _ ((rd_T25 l0_3 1).f3) x y true _ ?side1 ?side2 A8.out).mono ?_); (case side1 => exact Kd.C_below HR9_3.out (hzs HB)); (case side2 => exact HC9_3.out); rintro e w9 ⟨rfl, hb⟩; refine ⟨_, rfl, ?_⟩; replace BK1 := bb (bk1 BK1 NB1_8) hb; replace BK5 := bb (bk1 BK5 NB5_8) hb; replace BK6 := bb (bk1 BK6 NB6_8) hb; clear BK8; replace HB := hbb (hzs HB) hb; clear hb; obtain ⟨hcz91, hcz92, hfz91, hfz92⟩ := cz2 BK5; obtain ⟨hcz93, hcz94, hfz93, hfz94⟩ := cz2 BK6))
           go_roundg k1
           case measure => have := HK1.out; omega
           case rel => exact ⟨2, n0, x, d0, y, (by first | rfl | (simp; done) | (simp [*]; done) | decide), H', ⟨by have := HK1.out; omega⟩, ⟨bk2 BK1 NB1_5 NB1_6⟩, ⟨(by repeat (first | exact BK5.out | (with_reducible first | refine blk_drewN ?_ _ | refine blk_drew ?_ | refine blk_alloc ?_ _ | refine blk_far ?_ NB5_6.out _) | refine blk_put (cs := #[.int .i64 n0, .int .i64 n1]) ?_ 1 _ rfl))⟩, ⟨(by repeat (first | exact BK6.out | (with_reducible first | refine blk_drewN ?_ _ | refine blk_drew ?_ | refine blk_alloc ?_ _ | refine blk_far ?_ NB6_5.out _) | refine blk_put (cs := #[.int .i64 d0, .int .i64 d1]) ?_ 1 _ rfl))⟩, ⟨hzs HB⟩⟩
         | false =>
           rw [if_neg (show ¬ (false = true) by decide)] at H
           simp only [Option.some.injEq, Prod.mk.injEq] at H
           obtain ⟨rfl, rfl, rfl⟩ := H
           have p9 : 0 ≤ (1 : Int) := (by omega)
           have q9 : 1 < (l0_3.length : Int) := c6
           have q9b : 1 < l0_3.length := (by omega)
           clear c6
           obtain ⟨ad9, A9_3, c9_3, e9, hx9_0, hx9_1, hx9_2, hx9_3, hl9_3, hi9_3⟩ := at_T25 HR0_3.out 1 p9 q9
           cases e9
           replace hx9_0 := (HB.out.cell (World.block_lt_of_cell? w _ hx9_0)).trans hx9_0
           replace hx9_1 := (HB.out.cell (World.block_lt_of_cell? w _ hx9_1)).trans hx9_1
           replace hx9_2 := (HB.out.cell (World.block_lt_of_cell? w _ hx9_2)).trans hx9_2
           replace hx9_3 := (HB.out.cell (World.block_lt_of_cell? w _ hx9_3)).trans hx9_3
           have HR9_3 := Aside0.mk hi9_3
           have HC9_3 := Aside0.mk hl9_3
           clear hi9_3 hl9_3
           (try simp only [show (1 : Int).toNat = 1 from rfl, Nat.reduceMul, Nat.reduceEqDiff, Go.Addr.add, ↓reduceIte] at hx9_0)
           (try rw [show ((1 : Int)).toNat = 1 from rfl] at hx9_0)
           (try rw [show 1 * 4 = 4 from rfl] at hx9_0)
           (try rw [Addr.add_zero'] at hx9_0)
           (try simp only [show (1 : Int).toNat = 1 from rfl, Nat.reduceMul, Nat.reduceEqDiff, Go.Addr.add, ↓reduceIte] at hx9_1)
           (try rw [show ((1 : Int)).toNat = 1 from rfl] at hx9_1)
           (try rw [show 1 * 4 = 4 from rfl] at hx9_1)
           (try rw [Addr.add_zero'] at hx9_1)
           (try simp only [show (1 : Int).toNat = 1 from rfl, Nat.reduceMul, Nat.reduceEqDiff, Go.Addr.add, ↓reduceIte] at hx9_2)
           (try rw [show ((1 : Int)).toNat = 1 from rfl] at hx9_2)
           (try rw [show 1 * 4 = 4 from rfl] at hx9_2)
           (try rw [Addr.add_zero'] at hx9_2)
           (try simp only [show (1 : Int).toNat = 1 from rfl, Nat.reduceMul, Nat.reduceEqDiff, Go.Addr.add, ↓reduceIte] at hx9_3)
           (try rw [show ((1 : Int)).toNat = 1 from rfl] at hx9_3)
           (try rw [show 1 * 4 = 4 from rfl] at hx9_3)
           (try rw [Addr.add_zero'] at hx9_3)
           replace p9 := eq_true p9
           replace q9 := eq_true q9
           replace q9b := eq_true q9b
           obtain ⟨hcz95, hcz96, hcz97, hcz98, hfz95, hfz96, hfz97, hfz98⟩ := cz4 BK1
           obtain ⟨hcz99, hcz100, hfz99, hfz100⟩ := cz2 BK5
           obtain ⟨hcz101, hcz102, hfz101, hfz102⟩ := cz2 BK6
           have hnb103 := NB1_5.out
           have hnc103 := NB5_1.out
           have hnb104 := NB1_6.out
           have hnc104 := NB6_1.out
           have hnb105 := NB5_6.out
           have hnc105 := NB6_5.out
           go_wp2_with (first | ((with_reducible refine gate_dst (N := 8) rfl ?_); refine bE 8 #[.int .i64 0, .int .i64 0, .int .i64 0, .slice none 0 0] 25 ?_; intro g8 hg w8 hbox hb; have BK8 := Aside0.mk hbox; have GE8 := gw hg (hzs HB); have NB1_8 := nl hg (bk BK1); have NB8_1 := ng hg (bk BK1); have NB5_8 := nl hg (bk BK5); have NB8_5 := ng hg (bk BK5); have NB6_8 := nl hg (bk BK6); have NB8_6 := ng hg (bk BK6); replace BK1 := bb (bk BK1) hb; replace BK5 := bb (bk BK5) hb; replace BK6 := bb (bk BK6) hb; replace HB := hbb (hzs HB) hb; clear hb hbox hg; obtain ⟨hcz106, hcz107, hcz108, hcz109, hfz106, hfz107, hfz108, hfz109⟩ := cz4 BK1; obtain ⟨hcz110, hcz111, hfz110, hfz111⟩ := cz2 BK5; obtain ⟨hcz112, hcz113, hfz112, hfz113⟩ := cz2 BK6; obtain ⟨hcz114, hcz115, hcz116, hcz117, hfz114, hfz115, hfz116, hfz117⟩ := cz4 BK8; have hnb118 := NB1_8.out; have hnc118 := NB8_1.out; have hnb119 := NB5_8.out; have hnc119 := NB8_5.out; have hnb120 := NB6_8.out; have hnc120 := NB8_6.out) | ((with_reducible refine gate_callee (f := 50) rfl ?_); refine gL 24 Try.func50 #[.agg #[.int .i64 ((rd_T25 l0_3 1).f0), .int .i64 ((rd_T25 l0_3 1).f1), .int .i64 ((rd_T25 l0_3 1).f2), .slice A9_3 ((rd_T25 l0_3 1).f3).length c9_3]] ?_; (with_reducible refine (ih k1 (by have := HK1.out; omega) ((rd_T25 l0_3 1).f0) ((rd_T25 l0_3 1).f1) ((rd_T25 l0_3 1).f2) _ _ ((rd_T25 l0_3 1).f3) x y false _ ?side1 ?side2 A8.out).mono ?_); (case side1 => exact Kd.C_below HR9_3.out (hzs HB)); (case side2 => exact HC9_3.out); rintro e w9 ⟨rfl, hb⟩; refine ⟨_, rfl, ?_⟩; replace BK1 := bb (bk1 BK1 NB1_8) hb; replace BK5 := bb (bk1 BK5 NB5_8) hb; replace BK6 := bb (bk1 BK6 NB6_8) hb; clear BK8; replace HB := hbb (hzs HB) hb; clear hb; obtain ⟨hcz121, hcz122, hfz121, hfz122⟩ := cz2 BK5; obtain ⟨hcz123, hcz124, hfz123, hfz124⟩ := cz2 BK6))
           go_ret3
           exact ⟨by first | rfl | (simp [errW_none, errW_some] <;> rfl) | (simp [*, errW_none, errW_some] <;> rfl), hzs HB⟩
       · rw [if_neg e1] at H
         exact absurd H (by simp)
   · rw [if_neg c6] at H
     have c6b0 : decide (i < (l0_3.length : Int)) = false := decide_eq_false c6
     clear c6
     unfold impl_Expr_rat.op at H
     by_cases d1 : a0_0 = 1
     · rw [if_pos d1] at H
       have d1b0 : (a0_0 == 1) = true := by rw [d1]; rfl
       have d1b1 : (a0_0 != 1) = false := by rw [d1]; rfl
       have d2b0 : (a0_0 == 2) = false := by rw [d1]; rfl
       have d2b1 : (a0_0 != 2) = true := by rw [d1]; rfl
       have d5b0 : (a0_0 == 5) = false := by rw [d1]; rfl
       have d5b1 : (a0_0 != 5) = true := by rw [d1]; rfl
       have d6b0 : (a0_0 == 6) = false := by rw [d1]; rfl
       have d6b1 : (a0_0 != 6) = true := by rw [d1]; rfl
       have d7b0 : (a0_0 == 7) = false := by rw [d1]; rfl
       have d7b1 : (a0_0 != 7) = true := by rw [d1]; rfl
       have d8b0 : (a0_0 == 8) = false := by rw [d1]; rfl
       have d8b1 : (a0_0 != 8) = true := by rw [d1]; rfl
       clear d1
       have A9 := Aside0.mk H
       clear H
       obtain ⟨hcz133, hcz134, hcz135, hcz136, hfz133, hfz134, hfz135, hfz136⟩ := cz4 BK1
       obtain ⟨hcz137, hcz138, hfz137, hfz138⟩ := cz2 BK5
       obtain ⟨hcz139, hcz140, hfz139, hfz140⟩ := cz2 BK6
       have hnb141 := NB1_5.out
       have hnc141 := NB5_1.out
       have hnb142 := NB1_6.out
       have hnc142 := NB6_1.out
       have hnb143 := NB5_6.out
       have hnc143 := NB6_5.out
       go_wp2
       go_quiet (fail)
       go_wp2_with (first | (go_at_call 71; (with_reducible refine (impl_least.calls k1 a0_1 a0_2 r1 r2 r3 _ A9.out).mono ?_); rintro e w9 ⟨rfl, hb⟩; replace BK1 := bb (bk BK1) hb; replace BK5 := bb (bk BK5) hb; replace BK6 := bb (bk BK6) hb; replace HB := hbb (hzs HB) hb; clear hb; obtain ⟨hcz125, hcz126, hcz127, hcz128, hfz125, hfz126, hfz127, hfz128⟩ := cz4 BK1; obtain ⟨hcz129, hcz130, hfz129, hfz130⟩ := cz2 BK5; obtain ⟨hcz131, hcz132, hfz131, hfz132⟩ := cz2 BK6))
       go_ret3
       exact ⟨by first | rfl | (simp [errW_none, errW_some] <;> rfl) | (simp [*, errW_none, errW_some] <;> rfl), hzs HB⟩
     · rw [if_neg d1] at H
       have d1b0 : (a0_0 == 1) = false := beq_eq_false_iff_ne.mpr d1
       have d1b1 : (a0_0 != 1) = true := bne_iff_ne.mpr d1
       clear d1
       by_cases d2 : a0_0 = 2
       · rw [if_pos d2] at H
         have d2b0 : (a0_0 == 2) = true := by rw [d2]; rfl
         have d2b1 : (a0_0 != 2) = false := by rw [d2]; rfl
         have d5b0 : (a0_0 == 5) = false := by rw [d2]; rfl
         have d5b1 : (a0_0 != 5) = true := by rw [d2]; rfl
         have d6b0 : (a0_0 == 6) = false := by rw [d2]; rfl
         have d6b1 : (a0_0 != 6) = true := by rw [d2]; rfl
         have d7b0 : (a0_0 == 7) = false := by rw [d2]; rfl
         have d7b1 : (a0_0 != 7) = true := by rw [d2]; rfl
         have d8b0 : (a0_0 == 8) = false := by rw [d2]; rfl
         have d8b1 : (a0_0 != 8) = true := by rw [d2]; rfl
         clear d2
         simp only [Option.some.injEq, Prod.mk.injEq] at H
         obtain ⟨rfl, rfl, rfl⟩ := H
         obtain ⟨hcz144, hcz145, hcz146, hcz147, hfz144, hfz145, hfz146, hfz147⟩ := cz4 BK1
         obtain ⟨hcz148, hcz149, hfz148, hfz149⟩ := cz2 BK5
         obtain ⟨hcz150, hcz151, hfz150, hfz151⟩ := cz2 BK6
         have hnb152 := NB1_5.out
         have hnc152 := NB5_1.out
         have hnb153 := NB1_6.out
         have hnc153 := NB6_1.out
         have hnb154 := NB5_6.out
         have hnc154 := NB6_5.out
         go_wp2
         repeat (go_quiet (fail); try go_wp2)
         go_ret3
         exact ⟨by first | rfl | (simp [errW_none, errW_some] <;> rfl) | (simp [*, errW_none, errW_some] <;> rfl), hzs HB⟩
       · rw [if_neg d2] at H
         have d2b0 : (a0_0 == 2) = false := beq_eq_false_iff_ne.mpr d2
         have d2b1 : (a0_0 != 2) = true := bne_iff_ne.mpr d2
         clear d2
         by_cases d5 : a0_0 = 5
         · rw [if_pos d5] at H
           have d5b0 : (a0_0 == 5) = true := by rw [d5]; rfl
           have d5b1 : (a0_0 != 5) = false := by rw [d5]; rfl
           have d6b0 : (a0_0 == 6) = false := by rw [d5]; rfl
           have d6b1 : (a0_0 != 6) = true := by rw [d5]; rfl
           have d7b0 : (a0_0 == 7) = false := by rw [d5]; rfl
           have d7b1 : (a0_0 != 7) = true := by rw [d5]; rfl
           have d8b0 : (a0_0 == 8) = false := by rw [d5]; rfl
           have d8b1 : (a0_0 != 8) = true := by rw [d5]; rfl
           clear d5
           replace H := Option.bind_eq_some_iff.mp H
           obtain ⟨a, A10, H⟩ := H
           have A1 := Aside0.mk A10
           clear A10
           cases a with
           | false =>
             rw [if_neg (show ¬ (false = true) by decide)] at H
             simp only [Option.some.injEq, Prod.mk.injEq] at H
             obtain ⟨rfl, rfl, rfl⟩ := H
             obtain ⟨hcz163, hcz164, hcz165, hcz166, hfz163, hfz164, hfz165, hfz166⟩ := cz4 BK1
             obtain ⟨hcz167, hcz168, hfz167, hfz168⟩ := cz2 BK5
             obtain ⟨hcz169, hcz170, hfz169, hfz170⟩ := cz2 BK6
             have hnb171 := NB1_5.out
             have hnc171 := NB5_1.out
             have hnb172 := NB1_6.out
             have hnc172 := NB6_1.out
             have hnb173 := NB5_6.out
             have hnc173 := NB6_5.out
             go_wp2
             go_quiet (fail)
             go_wp2_with (first | (go_at_call 42; (with_reducible refine (impl_in.calls (wrap64 (n0 * d1)) (-576460752303423488) 576460752303423488 false _ A1.out).mono ?_); rintro e w' ⟨rfl, ⟨nd, rfl⟩⟩))
             go_ret3
             exact ⟨by first | rfl | (simp [errW_none, errW_some] <;> rfl) | (simp [*, errW_none, errW_some] <;> rfl), hzs HB⟩
           | true =>
             rw [if_pos rfl] at H
             replace H := Option.bind_eq_some_iff.mp H
             obtain ⟨b, A20, H⟩ := H
             have A2 := Aside0.mk A20
             clear A20
             cases b with
             | false =>
               rw [if_neg (show ¬ (false = true) by decide)] at H
               simp only [Option.some.injEq, Prod.mk.injEq] at H
               obtain ⟨rfl, rfl, rfl⟩ := H
               obtain ⟨hcz174, hcz175, hcz176, hcz177, hfz174, hfz175, hfz176, hfz177⟩ := cz4 BK1
               obtain ⟨hcz178, hcz179, hfz178, hfz179⟩ := cz2 BK5
               obtain ⟨hcz180, hcz181, hfz180, hfz181⟩ := cz2 BK6
               have hnb182 := NB1_5.out
               have hnc182 := NB5_1.out
               have hnb183 := NB1_6.out
               have hnc183 := NB6_1.out
               have hnb184 := NB5_6.out
               have hnc184 := NB6_5.out
               go_wp2
               go_quiet (fail)
               go_wp2_with (first | (go_at_call 42; (with_reducible refine (impl_in.calls (wrap64 (n0 * d1)) (-576460752303423488) 576460752303423488 true _ A1.out).mono ?_); rintro e w' ⟨rfl, ⟨nd, rfl⟩⟩) | (go_at_call 42; (with_reducible refine (impl_in.calls (wrap64 (n1 * d0)) (-576460752303423488) 576460752303423488 false _ A2.out).mono ?_); rintro e w' ⟨rfl, ⟨nd, rfl⟩⟩))
               go_ret3
               exact ⟨by first | rfl | (simp [errW_none, errW_some] <;> rfl) | (simp [*, errW_none, errW_some] <;> rfl), hzs HB⟩
             | true =>
               rw [if_pos rfl] at H
               have A9 := Aside0.mk H
               clear H
               obtain ⟨hcz185, hcz186, hcz187, hcz188, hfz185, hfz186, hfz187, hfz188⟩ := cz4 BK1
               obtain ⟨hcz189, hcz190, hfz189, hfz190⟩ := cz2 BK5
               obtain ⟨hcz191, hcz192, hfz191, hfz192⟩ := cz2 BK6
               have hnb193 := NB1_5.out
               have hnc193 := NB5_1.out
               have hnb194 := NB1_6.out
               have hnc194 := NB6_1.out
               have hnb195 := NB5_6.out
               have hnc195 := NB6_5.out
               go_wp2
               go_quiet (fail)
               go_wp2_with (first | (go_at_call 42; (with_reducible refine (impl_in.calls (wrap64 (n0 * d1)) (-576460752303423488) 576460752303423488 true _ A1.out).mono ?_); rintro e w' ⟨rfl, ⟨nd, rfl⟩⟩) | (go_at_call 42; (with_reducible refine (impl_in.calls (wrap64 (n1 * d0)) (-576460752303423488) 576460752303423488 true _ A2.out).mono ?_); rintro e w' ⟨rfl, ⟨nd, rfl⟩⟩) | (go_at_call 71; (with_reducible refine (impl_least.calls k1 (wrap64 ((wrap64 (n0 * d1)) + (wrap64 (n1 * d0)))) (wrap64 (d0 * d1)) r1 r2 r3 _ A9.out).mono ?_); rintro e w9 ⟨rfl, hb⟩; replace BK1 := bb (bk BK1) hb; replace BK5 := bb (bk BK5) hb; replace BK6 := bb (bk BK6) hb; replace HB := hbb (hzs HB) hb; clear hb; obtain ⟨hcz155, hcz156, hcz157, hcz158, hfz155, hfz156, hfz157, hfz158⟩ := cz4 BK1; obtain ⟨hcz159, hcz160, hfz159, hfz160⟩ := cz2 BK5; obtain ⟨hcz161, hcz162, hfz161, hfz162⟩ := cz2 BK6))
               go_ret3
               exact ⟨by first | rfl | (simp [errW_none, errW_some] <;> rfl) | (simp [*, errW_none, errW_some] <;> rfl), hzs HB⟩
         · rw [if_neg d5] at H
           have d5b0 : (a0_0 == 5) = false := beq_eq_false_iff_ne.mpr d5
           have d5b1 : (a0_0 != 5) = true := bne_iff_ne.mpr d5
           clear d5
           by_cases d6 : a0_0 = 6
           · rw [if_pos d6] at H
             have d6b0 : (a0_0 == 6) = true := by rw [d6]; rfl
             have d6b1 : (a0_0 != 6) = false := by rw [d6]; rfl
             have d7b0 : (a0_0 == 7) = false := by rw [d6]; rfl
             have d7b1 : (a0_0 != 7) = true := by rw [d6]; rfl
             have d8b0 : (a0_0 == 8) = false := by rw [d6]; rfl
             have d8b1 : (a0_0 != 8) = true := by rw [d6]; rfl
             clear d6
             replace H := Option.bind_eq_some_iff.mp H
             obtain ⟨a, A10, H⟩ := H
             have A1 := Aside0.mk A10
             clear A10
             cases a with
             | false =>
               rw [if_neg (show ¬ (false = true) by decide)] at H
               simp only [Option.some.injEq, Prod.mk.injEq] at H
               obtain ⟨rfl, rfl, rfl⟩ := H
               obtain ⟨hcz204, hcz205, hcz206, hcz207, hfz204, hfz205, hfz206, hfz207⟩ := cz4 BK1
               obtain ⟨hcz208, hcz209, hfz208, hfz209⟩ := cz2 BK5
               obtain ⟨hcz210, hcz211, hfz210, hfz211⟩ := cz2 BK6
               have hnb212 := NB1_5.out
               have hnc212 := NB5_1.out
               have hnb213 := NB1_6.out
               have hnc213 := NB6_1.out
               have hnb214 := NB5_6.out
               have hnc214 := NB6_5.out
               go_wp2
               go_quiet (fail)
               go_wp2_with (first | (go_at_call 42; (with_reducible refine (impl_in.calls (wrap64 (n0 * d1)) (-576460752303423488) 576460752303423488 false _ A1.out).mono ?_); rintro e w' ⟨rfl, ⟨nd, rfl⟩⟩))
               go_ret3
               exact ⟨by first | rfl | (simp [errW_none, errW_some] <;> rfl) | (simp [*, errW_none, errW_some] <;> rfl), hzs HB⟩
             | true =>
               rw [if_pos rfl] at H
               replace H := Option.bind_eq_some_iff.mp H
               obtain ⟨b, A20, H⟩ := H
               have A2 := Aside0.mk A20
               clear A20
               cases b with
               | false =>
                 rw [if_neg (show ¬ (false = true) by decide)] at H
                 simp only [Option.some.injEq, Prod.mk.injEq] at H
                 obtain ⟨rfl, rfl, rfl⟩ := H
                 obtain ⟨hcz215, hcz216, hcz217, hcz218, hfz215, hfz216, hfz217, hfz218⟩ := cz4 BK1
                 obtain ⟨hcz219, hcz220, hfz219, hfz220⟩ := cz2 BK5
                 obtain ⟨hcz221, hcz222, hfz221, hfz222⟩ := cz2 BK6
                 have hnb223 := NB1_5.out
                 have hnc223 := NB5_1.out
                 have hnb224 := NB1_6.out
                 have hnc224 := NB6_1.out
                 have hnb225 := NB5_6.out
                 have hnc225 := NB6_5.out
                 go_wp2
                 go_quiet (fail)
                 go_wp2_with (first | (go_at_call 42; (with_reducible refine (impl_in.calls (wrap64 (n0 * d1)) (-576460752303423488) 576460752303423488 true _ A1.out).mono ?_); rintro e w' ⟨rfl, ⟨nd, rfl⟩⟩) | (go_at_call 42; (with_reducible refine (impl_in.calls (wrap64 (n1 * d0)) (-576460752303423488) 576460752303423488 false _ A2.out).mono ?_); rintro e w' ⟨rfl, ⟨nd, rfl⟩⟩))
                 go_ret3
                 exact ⟨by first | rfl | (simp [errW_none, errW_some] <;> rfl) | (simp [*, errW_none, errW_some] <;> rfl), hzs HB⟩
               | true =>
                 rw [if_pos rfl] at H
                 have A9 := Aside0.mk H
                 clear H
                 obtain ⟨hcz226, hcz227, hcz228, hcz229, hfz226, hfz227, hfz228, hfz229⟩ := cz4 BK1
                 obtain ⟨hcz230, hcz231, hfz230, hfz231⟩ := cz2 BK5
                 obtain ⟨hcz232, hcz233, hfz232, hfz233⟩ := cz2 BK6
                 have hnb234 := NB1_5.out
                 have hnc234 := NB5_1.out
                 have hnb235 := NB1_6.out
                 have hnc235 := NB6_1.out
                 have hnb236 := NB5_6.out
                 have hnc236 := NB6_5.out
                 go_wp2
                 go_quiet (fail)
                 go_wp2_with (first | (go_at_call 42; (with_reducible refine (impl_in.calls (wrap64 (n0 * d1)) (-576460752303423488) 576460752303423488 true _ A1.out).mono ?_); rintro e w' ⟨rfl, ⟨nd, rfl⟩⟩) | (go_at_call 42; (with_reducible refine (impl_in.calls (wrap64 (n1 * d0)) (-576460752303423488) 576460752303423488 true _ A2.out).mono ?_); rintro e w' ⟨rfl, ⟨nd, rfl⟩⟩) | (go_at_call 71; (with_reducible refine (impl_least.calls k1 (wrap64 ((wrap64 (n0 * d1)) - (wrap64 (n1 * d0)))) (wrap64 (d0 * d1)) r1 r2 r3 _ A9.out).mono ?_); rintro e w9 ⟨rfl, hb⟩; replace BK1 := bb (bk BK1) hb; replace BK5 := bb (bk BK5) hb; replace BK6 := bb (bk BK6) hb; replace HB := hbb (hzs HB) hb; clear hb; obtain ⟨hcz196, hcz197, hcz198, hcz199, hfz196, hfz197, hfz198, hfz199⟩ := cz4 BK1; obtain ⟨hcz200, hcz201, hfz200, hfz201⟩ := cz2 BK5; obtain ⟨hcz202, hcz203, hfz202, hfz203⟩ := cz2 BK6))
                 go_ret3
                 exact ⟨by first | rfl | (simp [errW_none, errW_some] <;> rfl) | (simp [*, errW_none, errW_some] <;> rfl), hzs HB⟩
           · rw [if_neg d6] at H
             have d6b0 : (a0_0 == 6) = false := beq_eq_false_iff_ne.mpr d6
             have d6b1 : (a0_0 != 6) = true := bne_iff_ne.mpr d6
             clear d6
             by_cases d7 : a0_0 = 7
             · rw [if_pos d7] at H
               have d7b0 : (a0_0 == 7) = true := by rw [d7]; rfl
               have d7b1 : (a0_0 != 7) = false := by rw [d7]; rfl
               have d8b0 : (a0_0 == 8) = false := by rw [d7]; rfl
               have d8b1 : (a0_0 != 8) = true := by rw [d7]; rfl
               clear d7
               have A9 := Aside0.mk H
               clear H
               obtain ⟨hcz245, hcz246, hcz247, hcz248, hfz245, hfz246, hfz247, hfz248⟩ := cz4 BK1
               obtain ⟨hcz249, hcz250, hfz249, hfz250⟩ := cz2 BK5
               obtain ⟨hcz251, hcz252, hfz251, hfz252⟩ := cz2 BK6
               have hnb253 := NB1_5.out
               have hnc253 := NB5_1.out
               have hnb254 := NB1_6.out
               have hnc254 := NB6_1.out
               have hnb255 := NB5_6.out
               have hnc255 := NB6_5.out
               go_wp2
               go_quiet (fail)
               go_wp2_with (first | (go_at_call 71; (with_reducible refine (impl_least.calls k1 (wrap64 (n0 * n1)) (wrap64 (d0 * d1)) r1 r2 r3 _ A9.out).mono ?_); rintro e w9 ⟨rfl, hb⟩; replace BK1 := bb (bk BK1) hb; replace BK5 := bb (bk BK5) hb; replace BK6 := bb (bk BK6) hb; replace HB := hbb (hzs HB) hb; clear hb; obtain ⟨hcz237, hcz238, hcz239, hcz240, hfz237, hfz238, hfz239, hfz240⟩ := cz4 BK1; obtain ⟨hcz241, hcz242, hfz241, hfz242⟩ := cz2 BK5; obtain ⟨hcz243, hcz244, hfz243, hfz244⟩ := cz2 BK6))
               go_ret3
               exact ⟨by first | rfl | (simp [errW_none, errW_some] <;> rfl) | (simp [*, errW_none, errW_some] <;> rfl), hzs HB⟩
             · rw [if_neg d7] at H
               have d7b0 : (a0_0 == 7) = false := beq_eq_false_iff_ne.mpr d7
               have d7b1 : (a0_0 != 7) = true := bne_iff_ne.mpr d7
               clear d7
               by_cases d8 : a0_0 = 8
               · rw [if_pos d8] at H
                 have d8b0 : (a0_0 == 8) = true := by rw [d8]; rfl
                 have d8b1 : (a0_0 != 8) = false := by rw [d8]; rfl
                 clear d8
                 have A9 := Aside0.mk H
                 clear H
                 obtain ⟨hcz264, hcz265, hcz266, hcz267, hfz264, hfz265, hfz266, hfz267⟩ := cz4 BK1
                 obtain ⟨hcz268, hcz269, hfz268, hfz269⟩ := cz2 BK5
                 obtain ⟨hcz270, hcz271, hfz270, hfz271⟩ := cz2 BK6
                 have hnb272 := NB1_5.out
                 have hnc272 := NB5_1.out
                 have hnb273 := NB1_6.out
                 have hnc273 := NB6_1.out
                 have hnb274 := NB5_6.out
                 have hnc274 := NB6_5.out
                 go_wp2
                 go_quiet (fail)
                 go_wp2_with (first | (go_at_call 71; (with_reducible refine (impl_least.calls k1 (wrap64 (n0 * d1)) (wrap64 (n1 * d0)) r1 r2 r3 _ A9.out).mono ?_); rintro e w9 ⟨rfl, hb⟩; replace BK1 := bb (bk BK1) hb; replace BK5 := bb (bk BK5) hb; replace BK6 := bb (bk BK6) hb; replace HB := hbb (hzs HB) hb; clear hb; obtain ⟨hcz256, hcz257, hcz258, hcz259, hfz256, hfz257, hfz258, hfz259⟩ := cz4 BK1; obtain ⟨hcz260, hcz261, hfz260, hfz261⟩ := cz2 BK5; obtain ⟨hcz262, hcz263, hfz262, hfz263⟩ := cz2 BK6))
                 go_ret3
                 exact ⟨by first | rfl | (simp [errW_none, errW_some] <;> rfl) | (simp [*, errW_none, errW_some] <;> rfl), hzs HB⟩
               · rw [if_neg d8] at H
                 have d8b0 : (a0_0 == 8) = false := beq_eq_false_iff_ne.mpr d8
                 have d8b1 : (a0_0 != 8) = true := bne_iff_ne.mpr d8
                 clear d8
                 simp only [Option.some.injEq, Prod.mk.injEq] at H
                 obtain ⟨rfl, rfl, rfl⟩ := H
                 obtain ⟨hcz275, hcz276, hcz277, hcz278, hfz275, hfz276, hfz277, hfz278⟩ := cz4 BK1
                 obtain ⟨hcz279, hcz280, hfz279, hfz280⟩ := cz2 BK5
                 obtain ⟨hcz281, hcz282, hfz281, hfz282⟩ := cz2 BK6
                 have hnb283 := NB1_5.out
                 have hnc283 := NB5_1.out
                 have hnb284 := NB1_6.out
                 have hnc284 := NB6_1.out
                 have hnb285 := NB5_6.out
                 have hnc285 := NB6_5.out
                 go_wp2
                 repeat (go_quiet (fail); try go_wp2)
                 go_ret3
                 exact ⟨by first | rfl | (simp [errW_none, errW_some] <;> rfl) | (simp [*, errW_none, errW_some] <;> rfl), hzs HB⟩

/-! ### impl_ExprRat: function 26 -/
def impl_ExprRat.f (k : Nat) (a0_0 : Int) (a0_1 : Int) (a0_2 : Int) (l0_3 : List (S25)) : Option (Int × Int × Bool) := (impl_ExprOk.f k a0_0 a0_1 a0_2 l0_3).bind fun t183 => (if t183 = true then ((impl_Expr_rat.f k a0_0 a0_1 a0_2 l0_3).bind fun bt184 => (some (bt184.1, bt184.2.1, bt184.2.2))) else (some (0, 0, false)))
set_option maxHeartbeats 8000000 in
set_option maxRecDepth 100000 in
theorem impl_ExprRat.calls (k : Nat) (a0_0 : Int) (a0_1 : Int) (a0_2 : Int) (A0_3 : Option Addr) (c0_3 : Nat) (l0_3 : List (S25)) (r1 : Int) (r2 : Int) (r3 : Bool) (w : World) (hr0_3 : Kd.C k25 w A0_3 l0_3.length l0_3) (hc0_3 : l0_3.length ≤ c0_3) (h : impl_ExprRat.f k a0_0 a0_1 a0_2 l0_3 = some (r1, r2, r3)) :
  Calls Try.prog 26 #[.agg #[.int .i64 a0_0, .int .i64 a0_1, .int .i64 a0_2, .slice A0_3 l0_3.length c0_3]] w fun e w' => e = .returned (.tuple #[.int .i64 r1, .int .i64 r2, .bool r3]) ∧ Below w.heap.size w w' := by
 have hu25 := Try.underlying25
 have HR0_3 := Aside0.mk hr0_3
 have HC0_3 := Aside0.mk hc0_3
 clear hr0_3 hc0_3
 have HB := Aside0.mk (Below.refl w.heap.size w)
 have H := h
 clear h
 unfold impl_ExprRat.f at H
 replace H := Option.bind_eq_some_iff.mp H
 obtain ⟨t183, A20, H⟩ := H
 try dsimp only at H
 have A2 := Aside0.mk A20
 clear A20
 by_cases c3 : t183 = true
 ·subst c3
  rw [if_pos rfl] at H
  replace H := Option.bind_eq_some_iff.mp H
  obtain ⟨⟨t184, t185, t186⟩, A40, H⟩ := H
  try dsimp only at H
  have A4 := Aside0.mk A40
  clear A40
  simp only [Option.some.injEq, Prod.mk.injEq] at H
  obtain ⟨rfl, rfl, rfl⟩ := H
  go_enter Try.func26, Try.ntmps26
  go_wp2_with (first | ((with_reducible refine gate_dst (N := 1) rfl ?_); refine bE 1 #[.int .i64 a0_0, .int .i64 a0_1, .int .i64 a0_2, .slice A0_3 l0_3.length c0_3] 25 ?_; intro gb182 hg w5 hbox hb; have BK182 := Aside0.mk (hbox); have GE182 := gw hg (hz0 HB); have GW182 := GE182; replace HB := hbb (hz0 HB) hb; clear hb hbox hg; obtain ⟨hcz6_0, hcz6_1, hcz6_2, hcz6_3, hfz6_0, hfz6_1, hfz6_2, hfz6_3⟩ := cz4 BK182) | ((with_reducible refine gate_callee (f := 23) rfl ?_); refine gL 6 Try.func23 #[.agg #[.int .i64 a0_0, .int .i64 a0_1, .int .i64 a0_2, .slice A0_3 l0_3.length c0_3]] ?_; (with_reducible refine (impl_ExprOk.calls k a0_0 a0_1 a0_2 _ _ l0_3 true _ ?side1 ?side2 A2.out).mono ?_); (case side1 => repeat (first | exact (Kd.C_below HR0_3.out HB.out) | (with_reducible refine Kd.C_alloc ?_ _) | (with_reducible refine Kd.C_drewN ?_ _) | (with_reducible refine Kd.C_drew ?_))); (case side2 => exact HC0_3.out); rintro e w7 ⟨rfl, hb⟩; refine ⟨_, rfl, ?_⟩; replace BK182 := bb (bk BK182) hb; replace HB := hbb (hzs HB) hb; clear hb; obtain ⟨hcz8_0, hcz8_1, hcz8_2, hcz8_3, hfz8_0, hfz8_1, hfz8_2, hfz8_3⟩ := cz4 BK182) | ((with_reducible refine gate_callee (f := 50) rfl ?_); refine gL 9 Try.func50 #[.agg #[.int .i64 a0_0, .int .i64 a0_1, .int .i64 a0_2, .slice A0_3 l0_3.length c0_3]] ?_; (with_reducible refine (impl_Expr_rat.calls k a0_0 a0_1 a0_2 _ _ l0_3 t184 t185 t186 _ ?side1 ?side2 A4.out).mono ?_); (case side1 => repeat (first | exact (Kd.C_below HR0_3.out HB.out) | (with_reducible refine Kd.C_alloc ?_ _) | (with_reducible refine Kd.C_drewN ?_ _) | (with_reducible refine Kd.C_drew ?_))); (case side2 => exact HC0_3.out); rintro e w9 ⟨rfl, hb⟩; refine ⟨_, rfl, ?_⟩; replace BK182 := bb (bk BK182) hb; replace HB := hbb (hzs HB) hb; clear hb))
  go_ret3
  exact ⟨by first | rfl | (simp [errW_none, errW_some] <;> rfl) | (simp [*, errW_none, errW_some] <;> rfl), hzs HB⟩
 ·replace c3 := Bool.eq_false_iff.mpr c3
  subst c3
  rw [if_neg (show ¬ (false = true) by decide)] at H
  simp only [Option.some.injEq, Prod.mk.injEq] at H
  obtain ⟨rfl, rfl, rfl⟩ := H
  go_enter Try.func26, Try.ntmps26
  go_wp2_with (first | ((with_reducible refine gate_dst (N := 1) rfl ?_); refine bE 1 #[.int .i64 a0_0, .int .i64 a0_1, .int .i64 a0_2, .slice A0_3 l0_3.length c0_3] 25 ?_; intro gb182 hg w10 hbox hb; have BK182 := Aside0.mk (hbox); have GE182 := gw hg (hz0 HB); have GW182 := GE182; replace HB := hbb (hz0 HB) hb; clear hb hbox hg; obtain ⟨hcz11_0, hcz11_1, hcz11_2, hcz11_3, hfz11_0, hfz11_1, hfz11_2, hfz11_3⟩ := cz4 BK182) | ((with_reducible refine gate_callee (f := 23) rfl ?_); refine gL 6 Try.func23 #[.agg #[.int .i64 a0_0, .int .i64 a0_1, .int .i64 a0_2, .slice A0_3 l0_3.length c0_3]] ?_; (with_reducible refine (impl_ExprOk.calls k a0_0 a0_1 a0_2 _ _ l0_3 false _ ?side1 ?side2 A2.out).mono ?_); (case side1 => repeat (first | exact (Kd.C_below HR0_3.out HB.out) | (with_reducible refine Kd.C_alloc ?_ _) | (with_reducible refine Kd.C_drewN ?_ _) | (with_reducible refine Kd.C_drew ?_))); (case side2 => exact HC0_3.out); rintro e w12 ⟨rfl, hb⟩; refine ⟨_, rfl, ?_⟩; replace BK182 := bb (bk BK182) hb; replace HB := hbb (hzs HB) hb; clear hb))
  go_ret3
  exact ⟨by first | rfl | (simp [errW_none, errW_some] <;> rfl) | (simp [*, errW_none, errW_some] <;> rfl), hzs HB⟩


end Go.Proofs.Ytlodpfddimeffaa.M
