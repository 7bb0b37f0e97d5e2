import Derived.Test.YtlodpfddimeffaaM0
import Derived.Test.YtlodpfddimeffaaNa
namespace Go.Proofs.Ytlodpfddimeffaa.M
open Go.RowKit Go.Proofs.YtlodpfddimeffaaW.PrintWords Go.Proofs.YtlodpfddimeffaaW.PrintLast Go.Proofs.YtlodpfddimeffaaW.PrintMore
attribute [local go_sem] max2_int min2_int max_two min_two max_three min_three max_four min_four
attribute [local go_sem high] eqA31
attribute [local go_sem] fld31_0 fld31_1 fld25_0 fld25_1 fld25_2 fld25_3
set_option linter.unusedVariables false
set_option linter.unusedSimpArgs false

/-! ### spec_l31Kids: function 66 -/
def spec_l31Kids.f (a0 : Int) : Option (Int) := (spec_l6In.f a0 1 8).bind fun t103 => (if t103 = true then ((some (([0, 0, 1, 1, 0, 2, 2, 2, 2] : List Int) : List Int)).bind fun y104 => (if 0 ≤ a0 then (if a0 < (y104.length : Int) then (some (rd y104 a0)) else (none)) else (none))) else (some (-1)))
set_option maxHeartbeats 8000000 in
set_option maxRecDepth 100000 in
theorem spec_l31Kids.calls (a0 : Int) (r : Int) (w : World) (h : spec_l31Kids.f a0 = some r) :
  Calls Try.prog 66 #[.int .i64 a0] w fun e w' => e = .returned (.int .i64 r) ∧ Below w.heap.size w w' := by
 have HB := Aside0.mk (Below.refl w.heap.size w)
 have H := h
 clear h
 unfold spec_l31Kids.f at H
 replace H := Option.bind_eq_some_iff.mp H
 obtain ⟨t103, A20, H⟩ := H
 try dsimp only at H
 have A2 := Aside0.mk A20
 clear A20
 by_cases c3 : t103 = true
 ·subst c3
  rw [if_pos rfl] at H
  obtain ⟨y104, hy104⟩ : ∃ y_ : List Int, y_ = (([0, 0, 1, 1, 0, 2, 2, 2, 2] : List Int)) := ⟨_, rfl⟩
  replace H : (if 0 ≤ a0 then (if a0 < (y104.length : Int) then (some (rd y104 a0)) else (none)) else (none)) = some r := by first | (rw [hy104]; with_reducible exact H) | (have H2_ := (Option.bind_some _ _).symm.trans H; rw [hy104]; with_reducible exact H2_) | (have H2_ := (Option.bind_some _ _).symm.trans H; with_reducible exact H2_) | with_reducible exact H | (rw [hy104]; exact H) | exact H
  have Ny104 := Aside0.mk hy104
  clear hy104
  by_cases c4 : 0 ≤ a0
  ·rw [if_pos c4] at H
   have c4b0 : decide (0 ≤ a0) = true := decide_eq_true c4
   clear c4
   by_cases c5 : a0 < (y104.length : Int)
   ·rw [if_pos c5] at H
    have c5b0 : decide (a0 < (y104.length : Int)) = true := decide_eq_true c5
    clear c5
    obtain rfl := Option.some.inj H
    go_enter Try.func66, Try.ntmps66
    go_wp2_with (first | ((with_reducible refine gate_callee (f := 57) rfl ?_); refine gL 4 Try.func57 #[.int .i64 a0, .int .i64 1, .int .i64 8] ?_; (with_reducible refine (spec_l6In.calls a0 1 8 true _ A2.out).mono ?_); rintro e w' ⟨rfl, ⟨nd, rfl⟩⟩; refine ⟨_, rfl, ?_⟩) | ((with_reducible refine gate_dst (N := 6) rfl ?_); refine Kd.R_lit (Kd.int .i64) _ 3 ?hg (N := 6) ?hd (xs := ([0, 0, 1, 1, 0, 2, 2, 2, 2] : List Int)) (inner := [.int .i64 0, .int .i64 0, .int .i64 1, .int .i64 1, .int .i64 0, .int .i64 2, .int .i64 2, .int .i64 2, .int .i64 2]) (ok := fun _ => True) (okp := fun _ => True) ?hr ?hp (fun _ hk => hk) trivial (Below.refl _ _) (Nat.le_refl _) (by simp) ?_; (case hd => rfl); (case hg => rfl); (case hr => first | (go_simp; done) | (go_simp; rfl)); (case hp => exact (Reps.one (show Kd.M (Kd.int .i64) _ _ _ 0 [.int .i64 0] from rfl) (Reps.one (show Kd.M (Kd.int .i64) _ _ _ 0 [.int .i64 0] from rfl) (Reps.one (show Kd.M (Kd.int .i64) _ _ _ 1 [.int .i64 1] from rfl) (Reps.one (show Kd.M (Kd.int .i64) _ _ _ 1 [.int .i64 1] from rfl) (Reps.one (show Kd.M (Kd.int .i64) _ _ _ 0 [.int .i64 0] from rfl) (Reps.one (show Kd.M (Kd.int .i64) _ _ _ 2 [.int .i64 2] from rfl) (Reps.one (show Kd.M (Kd.int .i64) _ _ _ 2 [.int .i64 2] from rfl) (Reps.one (show Kd.M (Kd.int .i64) _ _ _ 2 [.int .i64 2] from rfl) (Reps.one (show Kd.M (Kd.int .i64) _ _ _ 2 [.int .i64 2] from rfl) (Reps.none _ _))))))))))); intro v105 w6 ho7 hb hg_ hnew_; clear hg_ hnew_; (first | rw [← Ny104.out] at ho7 | (simp only [Int.reduceToNat] at ho7; rw [← Ny104.out] at ho7)); have HO106 := Aside0.mk (Kd.R_lower ho7 (below_size (hz0 HB))); replace HB := hbb (hz0 HB) hb; clear hb ho7; obtain ⟨Ao8, co8, eo8⟩ := Kd.R_slice HO106.out; subst eo8; have p107 : 0 ≤ (a0 : Int) := of_decide_eq_true (by first | (with_reducible assumption) | assumption); have q107 : a0 < (y104.length : Int) := of_decide_eq_true (by first | (with_reducible assumption) | assumption); obtain ⟨ad107, e107, hx107_0⟩ := Kd.at_int (Kd.R_reads' HO106.out).2.2 a0 p107 q107; cases e107; replace p107 := eq_true p107; replace q107 := eq_true q107))
    go_ret
    exact ⟨by first | rfl | (simp [errW_none, errW_some] <;> rfl) | (simp [*, errW_none, errW_some] <;> rfl), hz0 HB⟩
   ·rw [if_neg c5] at H
    exact absurd H (by simp)
  ·rw [if_neg c4] at H
   exact absurd H (by simp)
 ·replace c3 := Bool.eq_false_iff.mpr c3
  subst c3
  rw [if_neg (show ¬ (false = true) by decide)] at H
  obtain rfl := Option.some.inj H
  go_enter Try.func66, Try.ntmps66
  go_wp2_with (first | ((with_reducible refine gate_callee (f := 57) rfl ?_); refine gL 4 Try.func57 #[.int .i64 a0, .int .i64 1, .int .i64 8] ?_; (with_reducible refine (spec_l6In.calls a0 1 8 false _ A2.out).mono ?_); rintro e w' ⟨rfl, ⟨nd, rfl⟩⟩; refine ⟨_, rfl, ?_⟩))
  go_ret
  exact ⟨by first | rfl | (simp [errW_none, errW_some] <;> rfl) | (simp [*, errW_none, errW_some] <;> rfl), hz0 HB⟩


/-! ### spec_l31Size: function 45 -/
mutual
def spec_l31Size.j0 : Nat → Int → Bool → Int → Int → Int → List (S25) → Option (Int)
 | 0, _, _, _, _, _, _ => none
 | k + 1, x1, x20, x109000, x109001, x109002, x109003 => if x20 = true then (some (wrap64 (x1 + 1))) else (if x109000 = 1 then ((spec_l6In.f x109001 (-1000) 1000).bind fun t110 => (if t110 = true then ((spec_l6In.f x109002 1 1000).bind fun t111 => (spec_l31Size.j1 k x1 t111 x109000 x109001 x109002 x109003)) else (spec_l31Size.j1 k x1 false x109000 x109001 x109002 x109003))) else (spec_l31Size.j1 k x1 false x109000 x109001 x109002 x109003))
def spec_l31Size.j1 : Nat → Int → Bool → Int → Int → Int → List (S25) → Option (Int)
 | 0, _, _, _, _, _, _ => none
 | k + 1, x1, x5, x109000, x109001, x109002, x109003 => if x109000 = 4 then ((spec_l6In.f x109001 (-129600000) 129600000).bind fun t112 => (if t112 = true then (spec_l31Size.j2 k x1 x5 (x109002 == 0) x109000 x109001 x109002 x109003) else (spec_l31Size.j2 k x1 x5 false x109000 x109001 x109002 x109003))) else (spec_l31Size.j2 k x1 x5 false x109000 x109001 x109002 x109003)
def spec_l31Size.j2 : Nat → Int → Bool → Bool → Int → Int → Int → List (S25) → Option (Int)
 | 0, _, _, _, _, _, _, _ => none
 | k + 1, x1, x5, x6, x109000, x109001, x109002, x109003 => (spec_l31Kids.f x109000).bind fun t113 => (if t113 > 0 then (if x109001 = 0 then (spec_l31Size.j3 k x1 x5 x6 (x109002 == 0) x109000 x109001 x109002 x109003) else (spec_l31Size.j3 k x1 x5 x6 false x109000 x109001 x109002 x109003)) else (spec_l31Size.j3 k x1 x5 x6 false x109000 x109001 x109002 x109003))
def spec_l31Size.j3 : Nat → Int → Bool → Bool → Bool → Int → Int → Int → List (S25) → Option (Int)
 | 0, _, _, _, _, _, _, _, _ => none
 | k + 1, x1, x5, x6, x7, x109000, x109001, x109002, x109003 => if x5 = true then (spec_l31Size.j4 k x1 false x109000 x109001 x109002 x109003) else (if x6 = true then (spec_l31Size.j4 k x1 false x109000 x109001 x109002 x109003) else (spec_l31Size.j4 k x1 (!x7) x109000 x109001 x109002 x109003))
def spec_l31Size.j4 : Nat → Int → Bool → Int → Int → Int → List (S25) → Option (Int)
 | 0, _, _, _, _, _, _ => none
 | k + 1, x1, x72, x109000, x109001, x109002, x109003 => if x72 = true then (some (wrap64 (x1 + 1))) else (spec_l31Size.l0 k x1 1 0 x109000 x109001 x109002 x109003)
def spec_l31Size.l0 : Nat → Int → Int → Int → Int → Int → Int → List (S25) → Option (Int)
 | 0, _, _, _, _, _, _, _ => none
 | k + 1, x1, x8, x9, x109000, x109001, x109002, x109003 => if x9 < (x109003.length : Int) then (if 0 ≤ x9 then ((spec_l31Size.f k ((rd_T25 x109003 x9).f0) ((rd_T25 x109003 x9).f1) ((rd_T25 x109003 x9).f2) ((rd_T25 x109003 x9).f3) (wrap64 (x1 - x8))).bind fun t115 => (if (wrap64 (x8 + t115)) > x1 then (some (wrap64 (x1 + 1))) else (spec_l31Size.l0 k x1 (wrap64 (x8 + t115)) (wrap64 (x9 + 1)) x109000 x109001 x109002 x109003))) else (none)) else (some x8)
def spec_l31Size.f : Nat → Int → Int → Int → List (S25) → Int → Option (Int)
 | 0, _, _, _, _, _ => none
 | k + 1, a0_0, a0_1, a0_2, l0_3, a1 => if a1 < 1 then (spec_l31Size.j0 k a1 true a0_0 a0_1 a0_2 l0_3) else ((spec_l31Kids.f a0_0).bind fun t109 => (spec_l31Size.j0 k a1 ((l0_3.length : Int) != t109) a0_0 a0_1 a0_2 l0_3))
end
def spec_l31Size.T1 : Bool × List (List Nat × List Nat) := (true, [([], []), ([0], [0]), ([1], [1]), ([2], [2]), ([3, 2], [2, 3]), ([4, 2], [2, 4]), ([2], [2]), ([6, 2], [2, 6]), ([7, 2, 2], [2, 7]), ([5, 8, 2], [2, 5, 8]), ([2, 9], [2, 9])])
def spec_l31Size.B1 : List Nat := [0, 1, 3, 7, 15, 31, 7, 71, 199, 511, 1023]
theorem spec_l31Size.tab1 : rtab .any (opsOf Try.f45 1) = spec_l31Size.T1 := by kernel_rfl
theorem spec_l31Size.bits1 : waitsOk spec_l31Size.T1.2 spec_l31Size.B1 = true := by kernel_rfl
set_option maxHeartbeats 8000000 in
set_option maxRecDepth 100000 in
theorem spec_l31Size.calls (k : Nat) : ∀ (a0_0 : Int) (a0_1 : Int) (a0_2 : Int) (A0_3 : Option Addr) (c0_3 : Nat) (l0_3 : List (S25)) (a1 : Int) (r : Int) (w : World) (hr0_3 : Kd.C k25 w A0_3 l0_3.length l0_3) (hc0_3 : l0_3.length ≤ c0_3) (h : spec_l31Size.f k a0_0 a0_1 a0_2 l0_3 a1 = some r),
  Calls Try.prog 45 #[.agg #[.int .i64 a0_0, .int .i64 a0_1, .int .i64 a0_2, .slice A0_3 l0_3.length c0_3], .int .i64 a1] w fun e w' => e = .returned (.int .i64 r) ∧ Below w.heap.size w w' := by
 induction k using Nat.strongRecOn with
 | _ k ih =>
 intro a0_0 a0_1 a0_2 A0_3 c0_3 l0_3 a1 r w hr0_3 hc0_3 h
 cases k with
 | zero => exact absurd h (by simp [spec_l31Size.f])
 | succ k =>
 simp only [spec_l31Size.f] at h
 have hu25 := Try.underlying25
 have HR0_3 := Aside0.mk hr0_3
 have HC0_3 := Aside0.mk hc0_3
 clear hr0_3 hc0_3
 have HB := Aside0.mk (Below.refl w.heap.size w)
 have H : (if a1 < 1 then (spec_l31Size.j0 k a1 true a0_0 a0_1 a0_2 l0_3) else ((spec_l31Kids.f a0_0).bind fun t109 => (spec_l31Size.j0 k a1 ((l0_3.length : Int) != t109) a0_0 a0_1 a0_2 l0_3))) = some r := h
 clear h
 have HC3 := Aside0.mk H
 clear H
 go_enter Try.func45, Try.ntmps45
 go_upto_region 1 with (first | ((with_reducible refine gate_dst (N := 2) rfl ?_); (try (refine gate_guard (by rfl) ?_; dsimp only)); refine bE 2 #[.int .i64 a0_0, .int .i64 a0_1, .int .i64 a0_2, .slice A0_3 l0_3.length c0_3] 25 ?_; intro gb108 hg w4 hbox hb; have BK108 := Aside0.mk (hbox); have GE108 := gw hg (hz0 HB); replace HB := hbb (hz0 HB) hb; clear hb hbox hg))
 (try simp only [Act.put, List.setIfInBounds_toArray, List.set_cons_zero, List.set_cons_succ])
 go_cut [20] (fun v20 wc => ∃ (kq : Nat) (x20_2 : Bool), v20 = .bool x20_2 ∧ Aside0 (spec_l31Size.j0 kq a1 x20_2 a0_0 a0_1 a0_2 l0_3 = some r) ∧ Aside0 (kq ≤ k) ∧ Aside0 (wc.heap[gb108]? = some (.cells #[.int .i64 a0_0, .int .i64 a0_1, .int .i64 a0_2, (.slice A0_3 l0_3.length c0_3)] 25 (0, 0))) ∧ Aside0 (Below w.heap.size w wc))
 case first =>
  have H := HC3.out
  clear HC3
  by_cases c5 : a1 < 1
  ·rw [if_pos c5] at H
   have c5b0 : decide (a1 < 1) = true := decide_eq_true c5
   clear c5
   (first | rw [c5b0] | (simp only [i64_w, i32_w]; rw [c5b0]) | skip)
   have H' := Aside0.mk H
   clear H
   try go_wp2
   replace BK108 := Aside0.mk (blk_drew BK108.out)
   replace HB := Aside0.mk (below_drew1 HB.out)
   refine start_ (n := 11) (S := fun w' => True) (ds := []) #[false, false, false, false, false, false, false, false, false, false, false] (by kernel_rfl) rfl rfl trivial (fun hHeld => ?_); refine with_tabW spec_l31Size.tab1 spec_l31Size.bits1 (fun HT_ HW_ => ?_)
   generalize w4.drew = w6 at BK108 HB hHeld ⊢
   refine pU 0 10 #[true, false, false, false, false, false, false, false, false, false, false] HT_ ?_
   refine pU 1 11 #[true, true, false, false, false, false, false, false, false, false, false] HT_ ?_
   refine pU 2 12 #[true, true, true, false, false, false, false, false, false, false, false] HT_ ?_
   refine pure_ (i := 3) (N := some 13) (v := undef) (a' := ?_) #[true, true, true, true, false, false, false, false, false, false, false] rfl rfl (any_of HT_.out (by kernel_rfl)) (fun _ _ _ h => h) (Or.inr ⟨by rfl, rfl⟩) ?_ ?_
   rotate_left
   ·simp only [Act.put, List.setIfInBounds_toArray, List.set_cons_zero, List.set_cons_succ, i64_w, i32_w]
    rfl
   refine pure_ (i := 4) (N := some 14) (v := undef) (a' := ?_) #[true, true, true, true, true, false, false, false, false, false, false] rfl rfl (any_of HT_.out (by kernel_rfl)) (fun _ _ _ h => h) (Or.inr ⟨by rfl, rfl⟩) ?_ ?_
   rotate_left
   ·simp only [Act.put, List.setIfInBounds_toArray, List.set_cons_zero, List.set_cons_succ, i64_w, i32_w]
    rfl
   refine pure_ (i := 5) (N := some 15) (v := undef) (a' := ?_) #[true, true, true, true, true, true, false, false, false, false, false] rfl rfl (any_of HT_.out (by kernel_rfl)) (fun _ _ _ h => h) (Or.inr ⟨by rfl, rfl⟩) ?_ ?_
   rotate_left
   ·simp only [Act.put, List.setIfInBounds_toArray, List.set_cons_zero, List.set_cons_succ, i64_w, i32_w]
    rfl
   refine pure_ (i := 6) (N := some 16) (v := undef) (a' := ?_) #[true, true, true, true, true, true, true, false, false, false, false] rfl rfl (any_of HT_.out (by kernel_rfl)) (fun _ _ _ h => h) (Or.inr ⟨by rfl, rfl⟩) ?_ ?_
   rotate_left
   ·simp only [Act.put, List.setIfInBounds_toArray, List.set_cons_zero, List.set_cons_succ, i64_w, i32_w]
    rfl
   refine pure_ (i := 7) (N := some 17) (v := undef) (a' := ?_) #[true, true, true, true, true, true, true, true, false, false, false] rfl rfl (any_of HT_.out (by kernel_rfl)) (fun _ _ _ h => h) (Or.inr ⟨by rfl, rfl⟩) ?_ ?_
   rotate_left
   ·simp only [Act.put, List.setIfInBounds_toArray, List.set_cons_zero, List.set_cons_succ, i64_w, i32_w]
    rfl
   refine pure_ (i := 8) (N := some 18) (v := undef) (a' := ?_) #[true, true, true, true, true, true, true, true, true, false, false] rfl rfl (any_of HT_.out (by kernel_rfl)) (fun _ _ _ h => h) (Or.inr ⟨by rfl, rfl⟩) ?_ ?_
   rotate_left
   ·simp only [Act.put, List.setIfInBounds_toArray, List.set_cons_zero, List.set_cons_succ, i64_w, i32_w]
    rfl
   refine pure_ (i := 9) (N := some 19) (v := undef) (a' := ?_) #[true, true, true, true, true, true, true, true, true, true, false] rfl rfl (any_of HT_.out (by kernel_rfl)) (fun _ _ _ h => h) (Or.inr ⟨by rfl, rfl⟩) ?_ ?_
   rotate_left
   ·simp only [Act.put, List.setIfInBounds_toArray, List.set_cons_zero, List.set_cons_succ, i64_w, i32_w]
    rfl
   refine pU 10 20 #[true, true, true, true, true, true, true, true, true, true, true] HT_ ?_
   refine done_ (done_of HT_.out (by kernel_rfl)) ?_
   try go_wp2
   go_meet
   case rel => exact ⟨_, (true), (by first | rfl | (simp; done) | (simp [*]; done)), H', ⟨by first | omega | exact Nat.le_refl _⟩, ⟨bk BK108⟩, ⟨hzs HB⟩⟩
  ·rw [if_neg c5] at H
   have c5b0 : decide (a1 < 1) = false := decide_eq_false c5
   clear c5
   (first | rw [c5b0] | (simp only [i64_w, i32_w]; rw [c5b0]) | skip)
   replace H := Option.bind_eq_some_iff.mp H
   obtain ⟨t109, A70, H⟩ := H
   try dsimp only at H
   have A7 := Aside0.mk A70
   clear A70
   have H' := Aside0.mk H
   clear H
   try go_wp2
   replace BK108 := Aside0.mk (blk_drew BK108.out)
   replace HB := Aside0.mk (below_drew1 HB.out)
   refine start_ (n := 11) (S := fun w' => w'.cell? ⟨gb108, 0, none⟩ = some (.int .i64 a0_0) ∧ w'.cell? ⟨gb108, 1, none⟩ = some (.int .i64 a0_1) ∧ w'.cell? ⟨gb108, 2, none⟩ = some (.int .i64 a0_2) ∧ w'.cell? ⟨gb108, 3, none⟩ = some (.slice A0_3 l0_3.length c0_3)) (ds := []) #[false, false, false, false, false, false, false, false, false, false, false] (by kernel_rfl) rfl rfl ⟨cw0 BK108, cw1 BK108, (blk_cell BK108.out 2).trans rfl, (blk_cell BK108.out 3).trans rfl⟩ (fun hHeld => ?_); refine with_tabW spec_l31Size.tab1 spec_l31Size.bits1 (fun HT_ HW_ => ?_)
   generalize w4.drew = w8 at BK108 HB hHeld ⊢
   refine pU 0 10 #[true, false, false, false, false, false, false, false, false, false, false] HT_ ?_
   refine pU 1 11 #[true, true, false, false, false, false, false, false, false, false, false] HT_ ?_
   refine pU 2 12 #[true, true, true, false, false, false, false, false, false, false, false] HT_ ?_
   refine pU 3 13 #[true, true, true, true, false, false, false, false, false, false, false] HT_ ?_
   refine pU 6 16 #[true, true, true, true, false, false, true, false, false, false, false] HT_ ?_
   refine take_ (i := 4) (N := some 14) (v := ?_) (a' := ?_) #[true, true, true, true, true, false, true, false, false, false, false] rfl rfl (take_ofW HT_.out HW_.out (by kernel_rfl)) (fun _ _ _ h => h) (Or.inl ⟨by rfl, ?_⟩) hHeld ?_ ?_
   rotate_left
   ·rintro w' ⟨s0, s1, s2, s3⟩
    go_simp
    with_reducible rfl
   rotate_left
   ·simp only [Act.put, List.setIfInBounds_toArray, List.set_cons_zero, List.set_cons_succ, i64_w, i32_w]
    rfl
   refine pU 5 15 #[true, true, true, true, true, true, true, false, false, false, false] HT_ ?_
   refine take_ (i := 7) (N := some 17) (v := ?_) (a' := ?_) #[true, true, true, true, true, true, true, true, false, false, false] rfl rfl (take_ofW HT_.out HW_.out (by kernel_rfl)) (fun _ _ _ h => h) (Or.inl ⟨by rfl, ?_⟩) hHeld ?_ ?_
   rotate_left
   ·rintro w' ⟨s0, s1, s2, s3⟩
    go_simp
    with_reducible rfl
   rotate_left
   ·simp only [Act.put, List.setIfInBounds_toArray, List.set_cons_zero, List.set_cons_succ, i64_w, i32_w]
    rfl
   refine oN 8 18 #[true, true, true, true, true, true, true, true, true, false, false] HT_ (fun K hK => ?_)
   refine gS Try.func66 #[.int .i64 a0_0] ?_
   with_reducible refine (spec_l31Kids.calls a0_0 t109 _ A7.out).mono ?_
   rintro e w9 ⟨rfl, hb⟩
   refine ⟨_, rfl, ?_⟩
   replace BK108 := bb (bk BK108) hb
   replace HB := hbb (hzs HB) hb
   clear hb
   refine hK.out _ _ ⟨cw0 BK108, cw1 BK108, (blk_cell BK108.out 2).trans rfl, (blk_cell BK108.out 3).trans rfl⟩ (fun hHeld => ?_)
   clear hK K
   refine nP ?_
   refine pU 9 19 #[true, true, true, true, true, true, true, true, true, true, false] HT_ ?_
   refine pU 10 20 #[true, true, true, true, true, true, true, true, true, true, true] HT_ ?_
   refine done_ (done_of HT_.out (by kernel_rfl)) ?_
   try go_wp2
   go_meet
   case rel => exact ⟨_, (((l0_3.length : Int) != t109)), (by first | rfl | (simp; done) | (simp [*]; done)), H', ⟨by first | omega | exact Nat.le_refl _⟩, ⟨bk BK108⟩, ⟨hzs HB⟩⟩
 case rest =>
  clear HC3
  try clear p2
  try clear c4
  try clear c5
  try clear c5b0
  try clear c6
  obtain ⟨kq, x20_2, rfl, HA, HJ2, BK108, HB⟩ := hcut
  cases kq with
  | zero => exact absurd HA.out (by simp [spec_l31Size.j0])
  | succ kj2 =>
   have H := HA.out
   clear HA
   simp only [spec_l31Size.j0] at H
   by_cases c10 : x20_2 = true
   ·subst c10
    rw [if_pos rfl] at H
    obtain rfl := Option.some.inj H
    go_wp2
    go_ret
    exact ⟨by first | rfl | (simp [errW_none, errW_some] <;> rfl) | (simp [*, errW_none, errW_some] <;> rfl), hzs HB⟩
   ·replace c10 := Bool.eq_false_iff.mpr c10
    subst c10
    rw [if_neg (show ¬ (false = true) by decide)] at H
    have HC11 := Aside0.mk H
    clear H
    go_upto_region 3 with (fail)
    go_cut [5] (fun v5 wc => ∃ (kq : Nat) (x5_10 : Bool), v5 = .bool x5_10 ∧ Aside0 (spec_l31Size.j1 kq a1 x5_10 a0_0 a0_1 a0_2 l0_3 = some r) ∧ Aside0 (kq ≤ kj2) ∧ Aside0 (wc.heap[gb108]? = some (.cells #[.int .i64 a0_0, .int .i64 a0_1, .int .i64 a0_2, (.slice A0_3 l0_3.length c0_3)] 25 (0, 0))) ∧ Aside0 (Below w.heap.size w wc))
    case first =>
     have H := HC11.out
     clear HC11
     by_cases c12 : a0_0 = 1
     ·rw [if_pos c12] at H
      have c12b0 : (a0_0 == 1) = true := beq_iff_eq.mpr c12
      have c12b1 : (a0_0 != 1) = false := bne_eq_false_iff_eq.mpr c12
      clear c12
      (first | rw [c12b0] | (simp only [i64_w, i32_w]; rw [c12b0]) | skip)
      replace H := Option.bind_eq_some_iff.mp H
      obtain ⟨t110, A130, H⟩ := H
      try dsimp only at H
      have A13 := Aside0.mk A130
      clear A130
      by_cases c14 : t110 = true
      ·subst c14
       rw [if_pos rfl] at H
       replace H := Option.bind_eq_some_iff.mp H
       obtain ⟨t111, A150, H⟩ := H
       try dsimp only at H
       have A15 := Aside0.mk A150
       clear A150
       have H' := Aside0.mk H
       clear H
       obtain ⟨hcz16_0, hcz16_1, hcz16_2, hcz16_3, hfz16_0, hfz16_1, hfz16_2, hfz16_3⟩ := cz4 BK108
       go_wp2_with (first | (go_at_call 57; (with_reducible refine (spec_l6In.calls a0_1 (-1000) 1000 true _ A13.out).mono ?_); rintro e w' ⟨rfl, ⟨nd, rfl⟩⟩) | (go_at_call 57; (with_reducible refine (spec_l6In.calls a0_2 1 1000 t111 _ A15.out).mono ?_); rintro e w' ⟨rfl, ⟨nd, rfl⟩⟩))
       go_meet
       case rel => exact ⟨_, (t111), (by first | rfl | (simp; done) | (simp [*]; done)), H', ⟨by have := HJ2.out; first | omega | exact Nat.le_refl _⟩, ⟨bk BK108⟩, ⟨hzs HB⟩⟩
      ·replace c14 := Bool.eq_false_iff.mpr c14
       subst c14
       rw [if_neg (show ¬ (false = true) by decide)] at H
       have H' := Aside0.mk H
       clear H
       obtain ⟨hcz17_0, hcz17_1, hcz17_2, hcz17_3, hfz17_0, hfz17_1, hfz17_2, hfz17_3⟩ := cz4 BK108
       go_wp2_with (first | (go_at_call 57; (with_reducible refine (spec_l6In.calls a0_1 (-1000) 1000 false _ A13.out).mono ?_); rintro e w' ⟨rfl, ⟨nd, rfl⟩⟩))
       go_meet
       case rel => exact ⟨_, (false), (by first | rfl | (simp; done) | (simp [*]; done)), H', ⟨by have := HJ2.out; first | omega | exact Nat.le_refl _⟩, ⟨bk BK108⟩, ⟨hzs HB⟩⟩
     ·rw [if_neg c12] at H
      have c12b0 : (a0_0 == 1) = false := beq_eq_false_iff_ne.mpr c12
      have c12b1 : (a0_0 != 1) = true := bne_iff_ne.mpr c12
      (first | rw [c12b0] | (simp only [i64_w, i32_w]; rw [c12b0]) | skip)
      have H' := Aside0.mk H
      clear H
      obtain ⟨hcz18_0, hcz18_1, hcz18_2, hcz18_3, hfz18_0, hfz18_1, hfz18_2, hfz18_3⟩ := cz4 BK108
      go_wp2
      go_meet
      case rel => exact ⟨_, (false), (by first | rfl | (simp; done) | (simp [*]; done)), H', ⟨by have := HJ2.out; first | omega | exact Nat.le_refl _⟩, ⟨bk BK108⟩, ⟨hzs HB⟩⟩
    case rest =>
     clear HC11
     try clear c1
     try clear p2
     try clear c4
     try clear c5
     try clear c5b0
     try clear c6
     try clear p6
     try clear c10
     try clear c12
     try clear c12b0
     try clear c12b1
     try clear c14
     try clear hcz16_0 hcz16_1 hcz16_2 hcz16_3
     try clear hcz17_0 hcz17_1 hcz17_2 hcz17_3
     try clear hcz18_0 hcz18_1 hcz18_2 hcz18_3
     try clear hfz16_0 hfz16_1 hfz16_2 hfz16_3
     try clear hfz17_0 hfz17_1 hfz17_2 hfz17_3
     try clear hfz18_0 hfz18_1 hfz18_2 hfz18_3
     try clear p2
     obtain ⟨kq, x5_10, rfl, HA, HJ10, BK108, HB⟩ := hcut
     cases kq with
     | zero => exact absurd HA.out (by simp [spec_l31Size.j1])
     | succ kj10 =>
      have H := HA.out
      clear HA
      simp only [spec_l31Size.j1] at H
      have HC19 := Aside0.mk H
      clear H
      go_upto_region 4 with (fail)
      go_cut [6] (fun v6 wc => ∃ (kq : Nat) (x6_18 : Bool), v6 = .bool x6_18 ∧ Aside0 (spec_l31Size.j2 kq a1 x5_10 x6_18 a0_0 a0_1 a0_2 l0_3 = some r) ∧ Aside0 (kq ≤ kj10) ∧ Aside0 (wc.heap[gb108]? = some (.cells #[.int .i64 a0_0, .int .i64 a0_1, .int .i64 a0_2, (.slice A0_3 l0_3.length c0_3)] 25 (0, 0))) ∧ Aside0 (Below w.heap.size w wc))
      case first =>
       have H := HC19.out
       clear HC19
       by_cases c20 : a0_0 = 4
       ·rw [if_pos c20] at H
        have c20b0 : (a0_0 == 4) = true := beq_iff_eq.mpr c20
        have c20b1 : (a0_0 != 4) = false := bne_eq_false_iff_eq.mpr c20
        clear c20
        (first | rw [c20b0] | (simp only [i64_w, i32_w]; rw [c20b0]) | skip)
        replace H := Option.bind_eq_some_iff.mp H
        obtain ⟨t112, A210, H⟩ := H
        try dsimp only at H
        have A21 := Aside0.mk A210
        clear A210
        by_cases c22 : t112 = true
        ·subst c22
         rw [if_pos rfl] at H
         have H' := Aside0.mk H
         clear H
         obtain ⟨hcz23_0, hcz23_1, hcz23_2, hcz23_3, hfz23_0, hfz23_1, hfz23_2, hfz23_3⟩ := cz4 BK108
         go_wp2_with (first | (go_at_call 57; (with_reducible refine (spec_l6In.calls a0_1 (-129600000) 129600000 true _ A21.out).mono ?_); rintro e w' ⟨rfl, ⟨nd, rfl⟩⟩))
         go_meet
         case rel => exact ⟨_, ((a0_2 == 0)), (by first | rfl | (simp; done) | (simp [*]; done)), H', ⟨by have := HJ2.out; have := HJ10.out; first | omega | exact Nat.le_refl _⟩, ⟨bk BK108⟩, ⟨hzs HB⟩⟩
        ·replace c22 := Bool.eq_false_iff.mpr c22
         subst c22
         rw [if_neg (show ¬ (false = true) by decide)] at H
         have H' := Aside0.mk H
         clear H
         obtain ⟨hcz24_0, hcz24_1, hcz24_2, hcz24_3, hfz24_0, hfz24_1, hfz24_2, hfz24_3⟩ := cz4 BK108
         go_wp2_with (first | (go_at_call 57; (with_reducible refine (spec_l6In.calls a0_1 (-129600000) 129600000 false _ A21.out).mono ?_); rintro e w' ⟨rfl, ⟨nd, rfl⟩⟩))
         go_meet
         case rel => exact ⟨_, (false), (by first | rfl | (simp; done) | (simp [*]; done)), H', ⟨by have := HJ2.out; have := HJ10.out; first | omega | exact Nat.le_refl _⟩, ⟨bk BK108⟩, ⟨hzs HB⟩⟩
       ·rw [if_neg c20] at H
        have c20b0 : (a0_0 == 4) = false := beq_eq_false_iff_ne.mpr c20
        have c20b1 : (a0_0 != 4) = true := bne_iff_ne.mpr c20
        (first | rw [c20b0] | (simp only [i64_w, i32_w]; rw [c20b0]) | skip)
        have H' := Aside0.mk H
        clear H
        obtain ⟨hcz25_0, hcz25_1, hcz25_2, hcz25_3, hfz25_0, hfz25_1, hfz25_2, hfz25_3⟩ := cz4 BK108
        go_wp2
        go_meet
        case rel => exact ⟨_, (false), (by first | rfl | (simp; done) | (simp [*]; done)), H', ⟨by have := HJ2.out; have := HJ10.out; first | omega | exact Nat.le_refl _⟩, ⟨bk BK108⟩, ⟨hzs HB⟩⟩
      case rest =>
       clear HC19
       try clear c1
       try clear c2
       try clear p2
       try clear c4
       try clear c5
       try clear c5b0
       try clear c6
       try clear p6
       try clear c10
       try clear c12
       try clear c12b0
       try clear c12b1
       try clear c14
       try clear c20
       try clear c20b0
       try clear c20b1
       try clear c22
       try clear hcz16_0 hcz16_1 hcz16_2 hcz16_3
       try clear hcz17_0 hcz17_1 hcz17_2 hcz17_3
       try clear hcz18_0 hcz18_1 hcz18_2 hcz18_3
       try clear hcz23_0 hcz23_1 hcz23_2 hcz23_3
       try clear hcz24_0 hcz24_1 hcz24_2 hcz24_3
       try clear hcz25_0 hcz25_1 hcz25_2 hcz25_3
       try clear hfz16_0 hfz16_1 hfz16_2 hfz16_3
       try clear hfz17_0 hfz17_1 hfz17_2 hfz17_3
       try clear hfz18_0 hfz18_1 hfz18_2 hfz18_3
       try clear hfz23_0 hfz23_1 hfz23_2 hfz23_3
       try clear hfz24_0 hfz24_1 hfz24_2 hfz24_3
       try clear hfz25_0 hfz25_1 hfz25_2 hfz25_3
       try clear p2
       try clear p6
       obtain ⟨kq, x6_18, rfl, HA, HJ18, BK108, HB⟩ := hcut
       cases kq with
       | zero => exact absurd HA.out (by simp [spec_l31Size.j2])
       | succ kj18 =>
        have H := HA.out
        clear HA
        simp only [spec_l31Size.j2] at H
        have HC26 := Aside0.mk H
        clear H
        go_upto_region 5 with (fail)
        go_cut [7] (fun v7 wc => ∃ (kq : Nat) (x7_25 : Bool), v7 = .bool x7_25 ∧ Aside0 (spec_l31Size.j3 kq a1 x5_10 x6_18 x7_25 a0_0 a0_1 a0_2 l0_3 = some r) ∧ Aside0 (kq ≤ kj18) ∧ Aside0 (wc.heap[gb108]? = some (.cells #[.int .i64 a0_0, .int .i64 a0_1, .int .i64 a0_2, (.slice A0_3 l0_3.length c0_3)] 25 (0, 0))) ∧ Aside0 (Below w.heap.size w wc))
        case first =>
         have H := HC26.out
         clear HC26
         replace H := Option.bind_eq_some_iff.mp H
         obtain ⟨t113, A270, H⟩ := H
         try dsimp only at H
         have A27 := Aside0.mk A270
         clear A270
         by_cases c28 : t113 > 0
         ·rw [if_pos c28] at H
          have c28b0 : decide (0 < t113) = true := decide_eq_true c28
          clear c28
          (first | rw [c28b0] | (simp only [i64_w, i32_w]; rw [c28b0]) | skip)
          by_cases c29 : a0_1 = 0
          ·rw [if_pos c29] at H
           have c29b0 : (a0_1 == 0) = true := beq_iff_eq.mpr c29
           have c29b1 : (a0_1 != 0) = false := bne_eq_false_iff_eq.mpr c29
           clear c29
           have H' := Aside0.mk H
           clear H
           obtain ⟨hcz30_0, hcz30_1, hcz30_2, hcz30_3, hfz30_0, hfz30_1, hfz30_2, hfz30_3⟩ := cz4 BK108
           go_wp2_with (first | ((with_reducible refine gate_callee (f := 66) rfl ?_); refine gL 51 Try.func66 #[.int .i64 a0_0] ?_; (with_reducible refine (spec_l31Kids.calls a0_0 t113 _ A27.out).mono ?_); rintro e w31 ⟨rfl, hb⟩; refine ⟨_, rfl, ?_⟩; replace BK108 := bb (bk BK108) hb; replace HB := hbb (hzs HB) hb; clear hb; obtain ⟨hcz32_0, hcz32_1, hcz32_2, hcz32_3, hfz32_0, hfz32_1, hfz32_2, hfz32_3⟩ := cz4 BK108))
           go_meet
           case rel => exact ⟨_, ((a0_2 == 0)), (by first | rfl | (simp; done) | (simp [*]; done)), H', ⟨by have := HJ2.out; have := HJ10.out; have := HJ18.out; first | omega | exact Nat.le_refl _⟩, ⟨bk BK108⟩, ⟨hzs HB⟩⟩
          ·rw [if_neg c29] at H
           have c29b0 : (a0_1 == 0) = false := beq_eq_false_iff_ne.mpr c29
           have c29b1 : (a0_1 != 0) = true := bne_iff_ne.mpr c29
           have H' := Aside0.mk H
           clear H
           obtain ⟨hcz33_0, hcz33_1, hcz33_2, hcz33_3, hfz33_0, hfz33_1, hfz33_2, hfz33_3⟩ := cz4 BK108
           go_wp2_with (first | ((with_reducible refine gate_callee (f := 66) rfl ?_); refine gL 51 Try.func66 #[.int .i64 a0_0] ?_; (with_reducible refine (spec_l31Kids.calls a0_0 t113 _ A27.out).mono ?_); rintro e w34 ⟨rfl, hb⟩; refine ⟨_, rfl, ?_⟩; replace BK108 := bb (bk BK108) hb; replace HB := hbb (hzs HB) hb; clear hb; obtain ⟨hcz35_0, hcz35_1, hcz35_2, hcz35_3, hfz35_0, hfz35_1, hfz35_2, hfz35_3⟩ := cz4 BK108))
           go_meet
           case rel => exact ⟨_, (false), (by first | rfl | (simp; done) | (simp [*]; done)), H', ⟨by have := HJ2.out; have := HJ10.out; have := HJ18.out; first | omega | exact Nat.le_refl _⟩, ⟨bk BK108⟩, ⟨hzs HB⟩⟩
         ·rw [if_neg c28] at H
          have c28b0 : decide (0 < t113) = false := decide_eq_false c28
          clear c28
          (first | rw [c28b0] | (simp only [i64_w, i32_w]; rw [c28b0]) | skip)
          have H' := Aside0.mk H
          clear H
          obtain ⟨hcz36_0, hcz36_1, hcz36_2, hcz36_3, hfz36_0, hfz36_1, hfz36_2, hfz36_3⟩ := cz4 BK108
          go_wp2_with (first | ((with_reducible refine gate_callee (f := 66) rfl ?_); refine gL 51 Try.func66 #[.int .i64 a0_0] ?_; (with_reducible refine (spec_l31Kids.calls a0_0 t113 _ A27.out).mono ?_); rintro e w37 ⟨rfl, hb⟩; refine ⟨_, rfl, ?_⟩; replace BK108 := bb (bk BK108) hb; replace HB := hbb (hzs HB) hb; clear hb))
          go_meet
          case rel => exact ⟨_, (false), (by first | rfl | (simp; done) | (simp [*]; done)), H', ⟨by have := HJ2.out; have := HJ10.out; have := HJ18.out; first | omega | exact Nat.le_refl _⟩, ⟨bk BK108⟩, ⟨hzs HB⟩⟩
        case rest =>
         clear HC26
         try clear c1
         try clear c2
         try clear p2
         try clear c4
         try clear c5
         try clear c5b0
         try clear c6
         try clear p6
         try clear c10
         try clear c12
         try clear c12b0
         try clear c12b1
         try clear c14
         try clear c20
         try clear c20b0
         try clear c20b1
         try clear c22
         try clear c28
         try clear c28b0
         try clear c29
         try clear c29b0
         try clear c29b1
         try clear hcz16_0 hcz16_1 hcz16_2 hcz16_3
         try clear hcz17_0 hcz17_1 hcz17_2 hcz17_3
         try clear hcz18_0 hcz18_1 hcz18_2 hcz18_3
         try clear hcz23_0 hcz23_1 hcz23_2 hcz23_3
         try clear hcz24_0 hcz24_1 hcz24_2 hcz24_3
         try clear hcz25_0 hcz25_1 hcz25_2 hcz25_3
         try clear hcz30_0 hcz30_1 hcz30_2 hcz30_3
         try clear hcz32_0 hcz32_1 hcz32_2 hcz32_3
         try clear hcz33_0 hcz33_1 hcz33_2 hcz33_3
         try clear hcz35_0 hcz35_1 hcz35_2 hcz35_3
         try clear hcz36_0 hcz36_1 hcz36_2 hcz36_3
         try clear hfz16_0 hfz16_1 hfz16_2 hfz16_3
         try clear hfz17_0 hfz17_1 hfz17_2 hfz17_3
         try clear hfz18_0 hfz18_1 hfz18_2 hfz18_3
         try clear hfz23_0 hfz23_1 hfz23_2 hfz23_3
         try clear hfz24_0 hfz24_1 hfz24_2 hfz24_3
         try clear hfz25_0 hfz25_1 hfz25_2 hfz25_3
         try clear hfz30_0 hfz30_1 hfz30_2 hfz30_3
         try clear hfz32_0 hfz32_1 hfz32_2 hfz32_3
         try clear hfz33_0 hfz33_1 hfz33_2 hfz33_3
         try clear hfz35_0 hfz35_1 hfz35_2 hfz35_3
         try clear hfz36_0 hfz36_1 hfz36_2 hfz36_3
         try clear p2
         try clear p6
         obtain ⟨kq, x7_25, rfl, HA, HJ25, BK108, HB⟩ := hcut
         cases kq with
         | zero => exact absurd HA.out (by simp [spec_l31Size.j3])
         | succ kj25 =>
          have H := HA.out
          clear HA
          simp only [spec_l31Size.j3] at H
          have HC38 := Aside0.mk H
          clear H
          go_upto_region 6 with (fail)
          go_cut [72] (fun v72 wc => ∃ (kq : Nat) (x72_37 : Bool), v72 = .bool x72_37 ∧ Aside0 (spec_l31Size.j4 kq a1 x72_37 a0_0 a0_1 a0_2 l0_3 = some r) ∧ Aside0 (kq ≤ kj25) ∧ Aside0 (wc.heap[gb108]? = some (.cells #[.int .i64 a0_0, .int .i64 a0_1, .int .i64 a0_2, (.slice A0_3 l0_3.length c0_3)] 25 (0, 0))) ∧ Aside0 (Below w.heap.size w wc))
          case first =>
           have H := HC38.out
           clear HC38
           by_cases c39 : x5_10 = true
           ·subst c39
            rw [if_pos rfl] at H
            have H' := Aside0.mk H
            clear H
            go_wp2
            go_meet
            case rel => exact ⟨_, (false), (by first | rfl | (simp; done) | (simp [*]; done)), H', ⟨by have := HJ2.out; have := HJ10.out; have := HJ18.out; have := HJ25.out; first | omega | exact Nat.le_refl _⟩, ⟨bk BK108⟩, ⟨hzs HB⟩⟩
           ·replace c39 := Bool.eq_false_iff.mpr c39
            subst c39
            rw [if_neg (show ¬ (false = true) by decide)] at H
            by_cases c40 : x6_18 = true
            ·subst c40
             rw [if_pos rfl] at H
             have H' := Aside0.mk H
             clear H
             go_wp2
             go_meet
             case rel => exact ⟨_, (false), (by first | rfl | (simp; done) | (simp [*]; done)), H', ⟨by have := HJ2.out; have := HJ10.out; have := HJ18.out; have := HJ25.out; first | omega | exact Nat.le_refl _⟩, ⟨bk BK108⟩, ⟨hzs HB⟩⟩
            ·replace c40 := Bool.eq_false_iff.mpr c40
             subst c40
             rw [if_neg (show ¬ (false = true) by decide)] at H
             have H' := Aside0.mk H
             clear H
             go_wp2
             go_meet
             case rel => exact ⟨_, (!x7_25), (by first | rfl | (simp; done) | (simp [*]; done)), H', ⟨by have := HJ2.out; have := HJ10.out; have := HJ18.out; have := HJ25.out; first | omega | exact Nat.le_refl _⟩, ⟨bk BK108⟩, ⟨hzs HB⟩⟩
          case rest =>
           clear HC38
           try clear c1
           try clear c2
           try clear p2
           try clear c3
           try clear c4
           try clear c5
           try clear c5b0
           try clear c6
           try clear p6
           try clear c10
           try clear c12
           try clear c12b0
           try clear c12b1
           try clear c14
           try clear c20
           try clear c20b0
           try clear c20b1
           try clear c22
           try clear c28
           try clear c28b0
           try clear c29
           try clear c29b0
           try clear c29b1
           try clear c39
           try clear c40
           try clear hcz16_0 hcz16_1 hcz16_2 hcz16_3
           try clear hcz17_0 hcz17_1 hcz17_2 hcz17_3
           try clear hcz18_0 hcz18_1 hcz18_2 hcz18_3
           try clear hcz23_0 hcz23_1 hcz23_2 hcz23_3
           try clear hcz24_0 hcz24_1 hcz24_2 hcz24_3
           try clear hcz25_0 hcz25_1 hcz25_2 hcz25_3
           try clear hcz30_0 hcz30_1 hcz30_2 hcz30_3
           try clear hcz32_0 hcz32_1 hcz32_2 hcz32_3
           try clear hcz33_0 hcz33_1 hcz33_2 hcz33_3
           try clear hcz35_0 hcz35_1 hcz35_2 hcz35_3
           try clear hcz36_0 hcz36_1 hcz36_2 hcz36_3
           try clear hfz16_0 hfz16_1 hfz16_2 hfz16_3
           try clear hfz17_0 hfz17_1 hfz17_2 hfz17_3
           try clear hfz18_0 hfz18_1 hfz18_2 hfz18_3
           try clear hfz23_0 hfz23_1 hfz23_2 hfz23_3
           try clear hfz24_0 hfz24_1 hfz24_2 hfz24_3
           try clear hfz25_0 hfz25_1 hfz25_2 hfz25_3
           try clear hfz30_0 hfz30_1 hfz30_2 hfz30_3
           try clear hfz32_0 hfz32_1 hfz32_2 hfz32_3
           try clear hfz33_0 hfz33_1 hfz33_2 hfz33_3
           try clear hfz35_0 hfz35_1 hfz35_2 hfz35_3
           try clear hfz36_0 hfz36_1 hfz36_2 hfz36_3
           try clear p2
           try clear p6
           obtain ⟨kq, x72_37, rfl, HA, HJ37, BK108, HB⟩ := hcut
           cases kq with
           | zero => exact absurd HA.out (by simp [spec_l31Size.j4])
           | succ kj37 =>
            have H := HA.out
            clear HA
            simp only [spec_l31Size.j4] at H
            by_cases c41 : x72_37 = true
            ·subst c41
             rw [if_pos rfl] at H
             obtain rfl := Option.some.inj H
             go_wp2
             go_ret
             exact ⟨by first | rfl | (simp [errW_none, errW_some] <;> rfl) | (simp [*, errW_none, errW_some] <;> rfl), hzs HB⟩
            ·replace c41 := Bool.eq_false_iff.mpr c41
             subst c41
             rw [if_neg (show ¬ (false = true) by decide)] at H
             have H' := Aside0.mk H
             clear H
             go_wp2
             go_loopg [8, 9] kj37 (fun kq v8 v9 w' => ∃ (x8_6 : Int) (x9_6 : Int), v8 = .int .i64 x8_6 ∧ v9 = .int .i64 x9_6 ∧ Aside0 (spec_l31Size.l0 kq a1 x8_6 x9_6 a0_0 a0_1 a0_2 l0_3 = some r) ∧ Aside0 (kq ≤ kj37) ∧ Aside0 (w'.heap[gb108]? = some (.cells #[.int .i64 a0_0, .int .i64 a0_1, .int .i64 a0_2, (.slice A0_3 l0_3.length c0_3)] 25 (0, 0))) ∧ Aside0 (Below w.heap.size w w'))
             case atStart => exact ⟨(1), (0), (by first | rfl | (simp; done) | (simp [*]; done)), (by first | rfl | (simp; done) | (simp [*]; done)), H', ⟨Nat.le_refl _⟩, ⟨bk BK108⟩, ⟨hzs HB⟩⟩
             case round =>
              clear H'
              try clear c1
              try clear c2
              try clear p2
              try clear c3
              try clear c4
              try clear c5
              try clear c5b0
              try clear c6
              try clear p6
              try clear c10
              try clear c12
              try clear c12b0
              try clear c12b1
              try clear c14
              try clear c20
              try clear c20b0
              try clear c20b1
              try clear c22
              try clear c28
              try clear c28b0
              try clear c29
              try clear c29b0
              try clear c29b1
              try clear c39
              try clear c40
              try clear c41
              try clear hcz16_0 hcz16_1 hcz16_2 hcz16_3
              try clear hcz17_0 hcz17_1 hcz17_2 hcz17_3
              try clear hcz18_0 hcz18_1 hcz18_2 hcz18_3
              try clear hcz23_0 hcz23_1 hcz23_2 hcz23_3
              try clear hcz24_0 hcz24_1 hcz24_2 hcz24_3
              try clear hcz25_0 hcz25_1 hcz25_2 hcz25_3
              try clear hcz30_0 hcz30_1 hcz30_2 hcz30_3
              try clear hcz32_0 hcz32_1 hcz32_2 hcz32_3
              try clear hcz33_0 hcz33_1 hcz33_2 hcz33_3
              try clear hcz35_0 hcz35_1 hcz35_2 hcz35_3
              try clear hcz36_0 hcz36_1 hcz36_2 hcz36_3
              try clear hfz16_0 hfz16_1 hfz16_2 hfz16_3
              try clear hfz17_0 hfz17_1 hfz17_2 hfz17_3
              try clear hfz18_0 hfz18_1 hfz18_2 hfz18_3
              try clear hfz23_0 hfz23_1 hfz23_2 hfz23_3
              try clear hfz24_0 hfz24_1 hfz24_2 hfz24_3
              try clear hfz25_0 hfz25_1 hfz25_2 hfz25_3
              try clear hfz30_0 hfz30_1 hfz30_2 hfz30_3
              try clear hfz32_0 hfz32_1 hfz32_2 hfz32_3
              try clear hfz33_0 hfz33_1 hfz33_2 hfz33_3
              try clear hfz35_0 hfz35_1 hfz35_2 hfz35_3
              try clear hfz36_0 hfz36_1 hfz36_2 hfz36_3
              try clear p2
              try clear p6
              obtain ⟨x8_6, x9_6, rfl, rfl, HA, HK6, BK108, HB⟩ := hrel
              cases gk with
              | zero => exact absurd HA.out (by simp [spec_l31Size.l0])
              | succ k6 =>
               have H := HA.out
               clear HA
               simp only [spec_l31Size.l0] at H
               by_cases c42 : x9_6 < (l0_3.length : Int)
               ·rw [if_pos c42] at H
                have c42b0 : decide (x9_6 < (l0_3.length : Int)) = true := decide_eq_true c42
                clear c42
                by_cases c43 : 0 ≤ x9_6
                ·rw [if_pos c43] at H
                 have c43b0 : decide (0 ≤ x9_6) = true := decide_eq_true c43
                 clear c43
                 replace H := Option.bind_eq_some_iff.mp H
                 obtain ⟨t115, A440, H⟩ := H
                 try dsimp only at H
                 have A44 := Aside0.mk A440
                 clear A440
                 by_cases c45 : (wrap64 (x8_6 + t115)) > a1
                 ·rw [if_pos c45] at H
                  have c45b0 : decide (a1 < (wrap64 (x8_6 + t115))) = true := decide_eq_true c45
                  clear c45
                  obtain rfl := Option.some.inj H
                  obtain ⟨hcz46_0, hcz46_1, hcz46_2, hcz46_3, hfz46_0, hfz46_1, hfz46_2, hfz46_3⟩ := cz4 BK108
                  have p114 : 0 ≤ (x9_6 : Int) := of_decide_eq_true (by first | (with_reducible assumption) | assumption)
                  have q114 : x9_6 < (l0_3.length : Int) := of_decide_eq_true (by first | (with_reducible assumption) | assumption)
                  obtain ⟨ad114, A114_3, c114_3, e114, hx114_0, hx114_1, hx114_2, hx114_3, hl114_3, hi114_3⟩ := at_T25 HR0_3.out x9_6 p114 q114
                  cases e114
                  replace hx114_0 := (HB.out.cell (World.block_lt_of_cell? w _ hx114_0)).trans hx114_0
                  replace hx114_1 := (HB.out.cell (World.block_lt_of_cell? w _ hx114_1)).trans hx114_1
                  replace hx114_2 := (HB.out.cell (World.block_lt_of_cell? w _ hx114_2)).trans hx114_2
                  replace hx114_3 := (HB.out.cell (World.block_lt_of_cell? w _ hx114_3)).trans hx114_3
                  have HR114_3 := Aside0.mk hi114_3
                  have HC114_3 := Aside0.mk hl114_3
                  clear hi114_3 hl114_3
                  replace p114 := eq_true p114
                  replace q114 := eq_true q114
                  go_wp2_with (first | ((with_reducible refine gate_callee (f := 45) rfl ?_); refine gL 91 Try.func45 #[.agg #[.int .i64 ((rd_T25 l0_3 x9_6).f0), .int .i64 ((rd_T25 l0_3 x9_6).f1), .int .i64 ((rd_T25 l0_3 x9_6).f2), .slice A114_3 ((rd_T25 l0_3 x9_6).f3).length c114_3], .int .i64 (wrap64 (a1 - x8_6))] ?_; (with_reducible refine (ih k6 (by have := HJ2.out; have := HJ10.out; have := HJ18.out; have := HJ25.out; have := HJ37.out; have := HK6.out; omega) ((rd_T25 l0_3 x9_6).f0) ((rd_T25 l0_3 x9_6).f1) ((rd_T25 l0_3 x9_6).f2) _ _ ((rd_T25 l0_3 x9_6).f3) (wrap64 (a1 - x8_6)) t115 _ ?side1 ?side2 A44.out).mono ?_); (case side1 => repeat (first | exact (Kd.C_below HR114_3.out HB.out) | (with_reducible refine Kd.C_alloc ?_ _) | (with_reducible refine Kd.C_drewN ?_ _) | (with_reducible refine Kd.C_drew ?_))); (case side2 => exact HC114_3.out); rintro e w47 ⟨rfl, hb⟩; refine ⟨_, rfl, ?_⟩; replace BK108 := bb (bk BK108) hb; replace HB := hbb (hzs HB) hb; clear hb))
                  go_ret
                  exact ⟨by first | rfl | (simp [errW_none, errW_some] <;> rfl) | (simp [*, errW_none, errW_some] <;> rfl), hzs HB⟩
                 ·rw [if_neg c45] at H
                  have c45b0 : decide (a1 < (wrap64 (x8_6 + t115))) = false := decide_eq_false c45
                  clear c45
                  have H' := Aside0.mk H
                  clear H
                  obtain ⟨hcz48_0, hcz48_1, hcz48_2, hcz48_3, hfz48_0, hfz48_1, hfz48_2, hfz48_3⟩ := cz4 BK108
                  have p114 : 0 ≤ (x9_6 : Int) := of_decide_eq_true (by first | (with_reducible assumption) | assumption)
                  have q114 : x9_6 < (l0_3.length : Int) := of_decide_eq_true (by first | (with_reducible assumption) | assumption)
                  obtain ⟨ad114, A114_3, c114_3, e114, hx114_0, hx114_1, hx114_2, hx114_3, hl114_3, hi114_3⟩ := at_T25 HR0_3.out x9_6 p114 q114
                  cases e114
                  replace hx114_0 := (HB.out.cell (World.block_lt_of_cell? w _ hx114_0)).trans hx114_0
                  replace hx114_1 := (HB.out.cell (World.block_lt_of_cell? w _ hx114_1)).trans hx114_1
                  replace hx114_2 := (HB.out.cell (World.block_lt_of_cell? w _ hx114_2)).trans hx114_2
                  replace hx114_3 := (HB.out.cell (World.block_lt_of_cell? w _ hx114_3)).trans hx114_3
                  have HR114_3 := Aside0.mk hi114_3
                  have HC114_3 := Aside0.mk hl114_3
                  clear hi114_3 hl114_3
                  replace p114 := eq_true p114
                  replace q114 := eq_true q114
                  go_wp2_with (first | ((with_reducible refine gate_callee (f := 45) rfl ?_); refine gL 91 Try.func45 #[.agg #[.int .i64 ((rd_T25 l0_3 x9_6).f0), .int .i64 ((rd_T25 l0_3 x9_6).f1), .int .i64 ((rd_T25 l0_3 x9_6).f2), .slice A114_3 ((rd_T25 l0_3 x9_6).f3).length c114_3], .int .i64 (wrap64 (a1 - x8_6))] ?_; (with_reducible refine (ih k6 (by have := HJ2.out; have := HJ10.out; have := HJ18.out; have := HJ25.out; have := HJ37.out; have := HK6.out; omega) ((rd_T25 l0_3 x9_6).f0) ((rd_T25 l0_3 x9_6).f1) ((rd_T25 l0_3 x9_6).f2) _ _ ((rd_T25 l0_3 x9_6).f3) (wrap64 (a1 - x8_6)) t115 _ ?side1 ?side2 A44.out).mono ?_); (case side1 => repeat (first | exact (Kd.C_below HR114_3.out HB.out) | (with_reducible refine Kd.C_alloc ?_ _) | (with_reducible refine Kd.C_drewN ?_ _) | (with_reducible refine Kd.C_drew ?_))); (case side2 => exact HC114_3.out); rintro e w49 ⟨rfl, hb⟩; refine ⟨_, rfl, ?_⟩; replace BK108 := bb (bk BK108) hb; replace HB := hbb (hzs HB) hb; clear hb))
                  go_roundg k6
                  case measure => have := HJ2.out; have := HJ10.out; have := HJ18.out; have := HJ25.out; have := HJ37.out; have := HK6.out; omega
                  case rel => exact ⟨(wrap64 (x8_6 + t115)), (wrap64 (x9_6 + 1)), (by first | rfl | (simp; done) | (simp [*]; done)), (by first | rfl | (simp; done) | (simp [*]; done)), H', ⟨by have := HJ2.out; have := HJ10.out; have := HJ18.out; have := HJ25.out; have := HJ37.out; have := HK6.out; omega⟩, ⟨bk BK108⟩, ⟨hzs HB⟩⟩
                ·rw [if_neg c43] at H
                 exact absurd H (by simp)
               ·rw [if_neg c42] at H
                have c42b0 : decide (x9_6 < (l0_3.length : Int)) = false := decide_eq_false c42
                clear c42
                obtain rfl := Option.some.inj H
                obtain ⟨hcz50_0, hcz50_1, hcz50_2, hcz50_3, hfz50_0, hfz50_1, hfz50_2, hfz50_3⟩ := cz4 BK108
                go_wp2
                go_ret
                exact ⟨by first | rfl | (simp [errW_none, errW_some] <;> rfl) | (simp [*, errW_none, errW_some] <;> rfl), hzs HB⟩


/-! ### spec_ExprOk: function 21 -/
def spec_ExprOk.f (k : Nat) (a0_0 : Int) (a0_1 : Int) (a0_2 : Int) (l0_3 : List (S25)) : Option (Bool) := (spec_l31Size.f k a0_0 a0_1 a0_2 l0_3 15).bind fun t117 => (some (decide (t117 ≤ 15)))
set_option maxHeartbeats 8000000 in
set_option maxRecDepth 100000 in
theorem spec_ExprOk.calls (k : Nat) (a0_0 : Int) (a0_1 : Int) (a0_2 : Int) (A0_3 : Option Addr) (c0_3 : Nat) (l0_3 : List (S25)) (r : Bool) (w : World) (hr0_3 : Kd.C k25 w A0_3 l0_3.length l0_3) (hc0_3 : l0_3.length ≤ c0_3) (h : spec_ExprOk.f k a0_0 a0_1 a0_2 l0_3 = some r) :
  Calls Try.prog 21 #[.agg #[.int .i64 a0_0, .int .i64 a0_1, .int .i64 a0_2, .slice A0_3 l0_3.length c0_3]] w fun e w' => e = .returned (.bool r) ∧ Below w.heap.size w w' := by
 have hu25 := Try.underlying25
 have HR0_3 := Aside0.mk hr0_3
 have HC0_3 := Aside0.mk hc0_3
 clear hr0_3 hc0_3
 have HB := Aside0.mk (Below.refl w.heap.size w)
 have H := h
 clear h
 unfold spec_ExprOk.f at H
 replace H := Option.bind_eq_some_iff.mp H
 obtain ⟨t117, A20, H⟩ := H
 try dsimp only at H
 have A2 := Aside0.mk A20
 clear A20
 obtain rfl := Option.some.inj H
 go_enter Try.func21, Try.ntmps21
 go_wp2_with (first | ((with_reducible refine gate_dst (N := 1) rfl ?_); refine bE 1 #[.int .i64 a0_0, .int .i64 a0_1, .int .i64 a0_2, .slice A0_3 l0_3.length c0_3] 25 ?_; intro gb116 hg w3 hbox hb; have BK116 := Aside0.mk (hbox); have GE116 := gw hg (hz0 HB); replace HB := hbb (hz0 HB) hb; clear hb hbox hg; obtain ⟨hcz4_0, hcz4_1, hcz4_2, hcz4_3, hfz4_0, hfz4_1, hfz4_2, hfz4_3⟩ := cz4 BK116) | ((with_reducible refine gate_callee (f := 45) rfl ?_); refine gL 4 Try.func45 #[.agg #[.int .i64 a0_0, .int .i64 a0_1, .int .i64 a0_2, .slice A0_3 l0_3.length c0_3], .int .i64 15] ?_; (with_reducible refine (spec_l31Size.calls k a0_0 a0_1 a0_2 _ _ l0_3 15 t117 _ ?side1 ?side2 A2.out).mono ?_); (case side1 => repeat (first | exact (Kd.C_below HR0_3.out HB.out) | (with_reducible refine Kd.C_alloc ?_ _) | (with_reducible refine Kd.C_drewN ?_ _) | (with_reducible refine Kd.C_drew ?_))); (case side2 => exact HC0_3.out); rintro e w5 ⟨rfl, hb⟩; refine ⟨_, rfl, ?_⟩; replace BK116 := bb (bk BK116) hb; replace HB := hbb (hzs HB) hb; clear hb))
 go_ret
 exact ⟨by first | rfl | (simp [errW_none, errW_some] <;> rfl) | (simp [*, errW_none, errW_some] <;> rfl), hzs HB⟩


end Go.Proofs.Ytlodpfddimeffaa.M
