import Derived.Test.YtlodpfddimeffaaM0
import Derived.Test.YtlodpfddimeffaaMa
namespace Go.Proofs.Ytlodpfddimeffaa.M
open Go.RowKit Go.Proofs.YtlodpfddimeffaaW.PrintWords Go.Proofs.YtlodpfddimeffaaW.PrintLast Go.Proofs.YtlodpfddimeffaaW.PrintMore
attribute [local go_sem] max2_int min2_int max_two min_two max_three min_three max_four min_four
attribute [local go_sem high] eqA31
attribute [local go_sem] fld31_0 fld31_1 fld25_0 fld25_1 fld25_2 fld25_3
set_option linter.unusedVariables false
set_option linter.unusedSimpArgs false

/-! ### impl_Expr_size: function 47 -/
mutual
def impl_Expr_size.j0 : Nat → Bool → Int → Int → Int → List (S25) → Option (Int)
 | 0, _, _, _, _, _ => none
 | k + 1, x19, x131000, x131001, x131002, x131003 => if x19 = true then (some 16) else (if x131001 = 0 then (impl_Expr_size.j1 k (x131002 == 0) x131000 x131001 x131002 x131003) else (impl_Expr_size.j1 k false x131000 x131001 x131002 x131003))
def impl_Expr_size.j1 : Nat → Bool → Int → Int → Int → List (S25) → Option (Int)
 | 0, _, _, _, _, _ => none
 | k + 1, x3, x131000, x131001, x131002, x131003 => if x131000 = 1 then ((impl_in.f x131001 (-1000) 1000).bind fun t133 => (if t133 = true then ((impl_in.f x131002 1 1000).bind fun t134 => (impl_Expr_size.j2 k t134 x131000 x131001 x131002 x131003)) else (impl_Expr_size.j2 k false x131000 x131001 x131002 x131003))) else (if x131000 = 4 then ((impl_aTurn.f x131001).bind fun t135 => (if t135 = true then (impl_Expr_size.j2 k (x131002 == 0) x131000 x131001 x131002 x131003) else (impl_Expr_size.j2 k false x131000 x131001 x131002 x131003))) else (impl_Expr_size.j2 k x3 x131000 x131001 x131002 x131003))
def impl_Expr_size.j2 : Nat → Bool → Int → Int → Int → List (S25) → Option (Int)
 | 0, _, _, _, _, _ => none
 | k + 1, x3, x131000, x131001, x131002, x131003 => if x3 = true then (impl_Expr_size.l0 k 1 x131003 (x131003.length : Int) 0) else (some 16)
def impl_Expr_size.l0 : Nat → Int → List (S25) → Int → Int → Option (Int)
 | 0, _, _, _, _ => none
 | k + 1, x4, x53, x54, x55 => if x55 < x54 then (if 0 ≤ x55 then (if x55 < (x53.length : Int) then ((impl_Expr_size.f k ((rd_T25 x53 x55).f0) ((rd_T25 x53 x55).f1) ((rd_T25 x53 x55).f2) ((rd_T25 x53 x55).f3)).bind fun t138 => (impl_Expr_size.l0 k (wrap64 (x4 + t138)) x53 x54 (wrap64 (x55 + 1)))) else (none)) else (none)) else (some x4)
def impl_Expr_size.f : Nat → Int → Int → Int → List (S25) → Option (Int)
 | 0, _, _, _, _ => none
 | k + 1, a0_0, a0_1, a0_2, l0_3 => (impl_in.f a0_0 1 8).bind fun t131 => (if t131 = true then ((impl_kidsOf.f a0_0).bind fun t132 => (impl_Expr_size.j0 k ((l0_3.length : Int) != t132) a0_0 a0_1 a0_2 l0_3)) else (impl_Expr_size.j0 k true a0_0 a0_1 a0_2 l0_3))
end
def impl_Expr_size.T1 : Bool × List (List Nat × List Nat) := (true, [([], []), ([0], [0]), ([1], [1]), ([2], [2]), ([3, 2], [3]), ([4], [4]), ([5, 4], [4, 5]), ([6, 4], [4, 6]), ([4], [4]), ([8, 4], [4, 8]), ([9, 4, 4], [4, 9]), ([7, 10, 4], [4, 7, 10]), ([4, 11], [4, 11])])
def impl_Expr_size.B1 : List Nat := [0, 1, 3, 7, 15, 31, 63, 127, 31, 287, 799, 2047, 4095]
theorem impl_Expr_size.tab1 : rtab .any (opsOf Try.f47 1) = impl_Expr_size.T1 := by kernel_rfl
theorem impl_Expr_size.bits1 : waitsOk impl_Expr_size.T1.2 impl_Expr_size.B1 = true := by kernel_rfl
set_option maxHeartbeats 8000000 in
set_option maxRecDepth 100000 in
theorem impl_Expr_size.calls (k : Nat) : ∀ (a0_0 : Int) (a0_1 : Int) (a0_2 : Int) (A0_3 : Option Addr) (c0_3 : Nat) (l0_3 : List (S25)) (r : Int) (w : World) (hr0_3 : Kd.C k25 w A0_3 l0_3.length l0_3) (hc0_3 : l0_3.length ≤ c0_3) (h : impl_Expr_size.f k a0_0 a0_1 a0_2 l0_3 = some r),
  Calls Try.prog 47 #[.agg #[.int .i64 a0_0, .int .i64 a0_1, .int .i64 a0_2, .slice A0_3 l0_3.length c0_3]] w fun e w' => e = .returned (.int .i64 r) ∧ Below w.heap.size w w' := by
 induction k using Nat.strongRecOn with
 | _ k ih =>
 intro a0_0 a0_1 a0_2 A0_3 c0_3 l0_3 r w hr0_3 hc0_3 h
 cases k with
 | zero => exact absurd h (by simp [impl_Expr_size.f])
 | succ k =>
 simp only [impl_Expr_size.f] at h
 have hu25 := Try.underlying25
 have HR0_3 := Aside0.mk hr0_3
 have HC0_3 := Aside0.mk hc0_3
 clear hr0_3 hc0_3
 have HB := Aside0.mk (Below.refl w.heap.size w)
 have H : ((impl_in.f a0_0 1 8).bind fun t131 => (if t131 = true then ((impl_kidsOf.f a0_0).bind fun t132 => (impl_Expr_size.j0 k ((l0_3.length : Int) != t132) a0_0 a0_1 a0_2 l0_3)) else (impl_Expr_size.j0 k true a0_0 a0_1 a0_2 l0_3))) = some r := h
 clear h
 have HC2 := Aside0.mk H
 clear H
 go_enter Try.func47, Try.ntmps47
 go_upto_region 1 with (first | ((with_reducible refine gate_dst (N := 1) rfl ?_); (try (refine gate_guard (by rfl) ?_; dsimp only)); refine bE 1 #[.int .i64 a0_0, .int .i64 a0_1, .int .i64 a0_2, .slice A0_3 l0_3.length c0_3] 25 ?_; intro gb130 hg w3 hbox hb; have BK130 := Aside0.mk (hbox); have GE130 := gw hg (hz0 HB); replace HB := hbb (hz0 HB) hb; clear hb hbox hg))
 (try simp only [Act.put, List.setIfInBounds_toArray, List.set_cons_zero, List.set_cons_succ])
 go_cut [19] (fun v19 wc => ∃ (kq : Nat) (x19_1 : Bool), v19 = .bool x19_1 ∧ Aside0 (impl_Expr_size.j0 kq x19_1 a0_0 a0_1 a0_2 l0_3 = some r) ∧ Aside0 (kq ≤ k) ∧ Aside0 (wc.heap[gb130]? = some (.cells #[.int .i64 a0_0, .int .i64 a0_1, .int .i64 a0_2, (.slice A0_3 l0_3.length c0_3)] 25 (0, 0))) ∧ Aside0 (Below w.heap.size w wc))
 case first =>
  have H := HC2.out
  clear HC2
  replace H := Option.bind_eq_some_iff.mp H
  obtain ⟨t131, A40, H⟩ := H
  try dsimp only at H
  have A4 := Aside0.mk A40
  clear A40
  by_cases c5 : t131 = true
  ·subst c5
   rw [if_pos rfl] at H
   replace H := Option.bind_eq_some_iff.mp H
   obtain ⟨t132, A60, H⟩ := H
   try dsimp only at H
   have A6 := Aside0.mk A60
   clear A60
   have H' := Aside0.mk H
   clear H
   try go_wp2
   replace BK130 := Aside0.mk (blk_drew BK130.out)
   replace HB := Aside0.mk (below_drew1 HB.out)
   refine start_ (n := 13) (S := fun w' => w'.cell? ⟨gb130, 0, none⟩ = some (.int .i64 a0_0) ∧ w'.cell? ⟨gb130, 1, none⟩ = some (.int .i64 a0_1) ∧ w'.cell? ⟨gb130, 2, none⟩ = some (.int .i64 a0_2) ∧ w'.cell? ⟨gb130, 3, none⟩ = some (.slice A0_3 l0_3.length c0_3)) (ds := []) #[false, false, false, false, false, false, false, false, false, false, false, false, false] (by kernel_rfl) rfl rfl ⟨cw0 BK130, cw1 BK130, (blk_cell BK130.out 2).trans rfl, (blk_cell BK130.out 3).trans rfl⟩ (fun hHeld => ?_); refine with_tabW impl_Expr_size.tab1 impl_Expr_size.bits1 (fun HT_ HW_ => ?_)
   generalize w3.drew = w7 at BK130 HB hHeld ⊢
   refine pU 0 7 #[true, false, false, false, false, false, false, false, false, false, false, false, false] HT_ ?_
   refine take_ (i := 1) (N := some 8) (v := ?_) (a' := ?_) #[true, true, false, false, false, false, false, false, false, false, false, false, false] rfl rfl (take_ofW HT_.out HW_.out (by kernel_rfl)) (fun _ _ _ h => h) (Or.inl ⟨by rfl, ?_⟩) hHeld ?_ ?_
   rotate_left
   ·rintro w' ⟨s0, s1, s2, s3⟩
    go_simp
    with_reducible rfl
   rotate_left
   ·simp only [Act.put, List.setIfInBounds_toArray, List.set_cons_zero, List.set_cons_succ, i64_w, i32_w]
    rfl
   refine oN 2 9 #[true, true, true, false, false, false, false, false, false, false, false, false, false] HT_ (fun K hK => ?_)
   refine gS Try.func42 #[.int .i64 a0_0, .int .i64 1, .int .i64 8] ?_
   with_reducible refine (impl_in.calls a0_0 1 8 true _ A4.out).mono ?_
   rintro e w' ⟨rfl, ⟨nd, rfl⟩⟩
   refine ⟨_, rfl, ?_⟩
   refine hK.out _ _ ⟨cw0 BK130, cw1 BK130, (blk_cell BK130.out 2).trans rfl, (blk_cell BK130.out 3).trans rfl⟩ (fun hHeld => ?_)
   clear hK K
   refine nP ?_
   refine pU 3 10 #[true, true, true, true, false, false, false, false, false, false, false, false, false] HT_ ?_
   refine pU 4 11 #[true, true, true, true, true, false, false, false, false, false, false, false, false] HT_ ?_
   refine pU 5 12 #[true, true, true, true, true, true, false, false, false, false, false, false, false] HT_ ?_
   refine pU 8 15 #[true, true, true, true, true, true, false, false, true, false, false, false, false] HT_ ?_
   refine take_ (i := 6) (N := some 13) (v := ?_) (a' := ?_) #[true, true, true, true, true, true, true, false, true, false, false, false, false] rfl rfl (take_ofW HT_.out HW_.out (by kernel_rfl)) (fun _ _ _ h => h) (Or.inl ⟨by rfl, ?_⟩) hHeld ?_ ?_
   rotate_left
   ·rintro w' ⟨s0, s1, s2, s3⟩
    go_simp
    with_reducible rfl
   rotate_left
   ·simp only [Act.put, List.setIfInBounds_toArray, List.set_cons_zero, List.set_cons_succ, i64_w, i32_w]
    rfl
   refine pU 7 14 #[true, true, true, true, true, true, true, true, true, false, false, false, false] HT_ ?_
   refine take_ (i := 9) (N := some 16) (v := ?_) (a' := ?_) #[true, true, true, true, true, true, true, true, true, true, false, false, false] rfl rfl (take_ofW HT_.out HW_.out (by kernel_rfl)) (fun _ _ _ h => h) (Or.inl ⟨by rfl, ?_⟩) hHeld ?_ ?_
   rotate_left
   ·rintro w' ⟨s0, s1, s2, s3⟩
    go_simp
    with_reducible rfl
   rotate_left
   ·simp only [Act.put, List.setIfInBounds_toArray, List.set_cons_zero, List.set_cons_succ, i64_w, i32_w]
    rfl
   refine oN 10 17 #[true, true, true, true, true, true, true, true, true, true, true, false, false] HT_ (fun K hK => ?_)
   refine gS Try.func67 #[.int .i64 a0_0] ?_
   with_reducible refine (impl_kidsOf.calls a0_0 t132 _ A6.out).mono ?_
   rintro e w8 ⟨rfl, hb⟩
   refine ⟨_, rfl, ?_⟩
   replace BK130 := bb (bk BK130) hb
   replace HB := hbb (hzs HB) hb
   clear hb
   refine hK.out _ _ ⟨cw0 BK130, cw1 BK130, (blk_cell BK130.out 2).trans rfl, (blk_cell BK130.out 3).trans rfl⟩ (fun hHeld => ?_)
   clear hK K
   refine nP ?_
   refine pU 11 18 #[true, true, true, true, true, true, true, true, true, true, true, true, false] HT_ ?_
   refine pU 12 19 #[true, true, true, true, true, true, true, true, true, true, true, true, true] HT_ ?_
   refine done_ (done_of HT_.out (by kernel_rfl)) ?_
   try go_wp2
   go_meet
   case rel => exact ⟨_, (((l0_3.length : Int) != t132)), (by first | rfl | (simp; done) | (simp [*]; done)), H', ⟨by first | omega | exact Nat.le_refl _⟩, ⟨bk BK130⟩, ⟨hzs HB⟩⟩
  ·replace c5 := Bool.eq_false_iff.mpr c5
   subst c5
   rw [if_neg (show ¬ (false = true) by decide)] at H
   have H' := Aside0.mk H
   clear H
   try go_wp2
   replace BK130 := Aside0.mk (blk_drew BK130.out)
   replace HB := Aside0.mk (below_drew1 HB.out)
   refine start_ (n := 13) (S := fun w' => w'.cell? ⟨gb130, 0, none⟩ = some (.int .i64 a0_0) ∧ w'.cell? ⟨gb130, 1, none⟩ = some (.int .i64 a0_1) ∧ w'.cell? ⟨gb130, 2, none⟩ = some (.int .i64 a0_2) ∧ w'.cell? ⟨gb130, 3, none⟩ = some (.slice A0_3 l0_3.length c0_3)) (ds := []) #[false, false, false, false, false, false, false, false, false, false, false, false, false] (by kernel_rfl) rfl rfl ⟨cw0 BK130, cw1 BK130, (blk_cell BK130.out 2).trans rfl, (blk_cell BK130.out 3).trans rfl⟩ (fun hHeld => ?_); refine with_tabW impl_Expr_size.tab1 impl_Expr_size.bits1 (fun HT_ HW_ => ?_)
   generalize w3.drew = w9 at BK130 HB hHeld ⊢
   refine pU 0 7 #[true, false, false, false, false, false, false, false, false, false, false, false, false] HT_ ?_
   refine take_ (i := 1) (N := some 8) (v := ?_) (a' := ?_) #[true, true, false, false, false, false, false, false, false, false, false, false, false] rfl rfl (take_ofW HT_.out HW_.out (by kernel_rfl)) (fun _ _ _ h => h) (Or.inl ⟨by rfl, ?_⟩) hHeld ?_ ?_
   rotate_left
   ·rintro w' ⟨s0, s1, s2, s3⟩
    go_simp
    with_reducible rfl
   rotate_left
   ·simp only [Act.put, List.setIfInBounds_toArray, List.set_cons_zero, List.set_cons_succ, i64_w, i32_w]
    rfl
   refine oN 2 9 #[true, true, true, false, false, false, false, false, false, false, false, false, false] HT_ (fun K hK => ?_)
   refine gS Try.func42 #[.int .i64 a0_0, .int .i64 1, .int .i64 8] ?_
   with_reducible refine (impl_in.calls a0_0 1 8 false _ A4.out).mono ?_
   rintro e w' ⟨rfl, ⟨nd, rfl⟩⟩
   refine ⟨_, rfl, ?_⟩
   refine hK.out _ _ ⟨cw0 BK130, cw1 BK130, (blk_cell BK130.out 2).trans rfl, (blk_cell BK130.out 3).trans rfl⟩ (fun hHeld => ?_)
   clear hK K
   refine nP ?_
   refine pU 3 10 #[true, true, true, true, false, false, false, false, false, false, false, false, false] HT_ ?_
   refine pU 4 11 #[true, true, true, true, true, false, false, false, false, false, false, false, false] HT_ ?_
   refine pure_ (i := 5) (N := some 12) (v := undef) (a' := ?_) #[true, true, true, true, true, true, false, false, false, false, false, false, false] rfl rfl (any_of HT_.out (by kernel_rfl)) (fun _ _ _ h => h) (Or.inr ⟨by rfl, rfl⟩) ?_ ?_
   rotate_left
   ·simp only [Act.put, List.setIfInBounds_toArray, List.set_cons_zero, List.set_cons_succ, i64_w, i32_w]
    rfl
   refine pure_ (i := 6) (N := some 13) (v := undef) (a' := ?_) #[true, true, true, true, true, true, true, false, false, false, false, false, false] rfl rfl (any_of HT_.out (by kernel_rfl)) (fun _ _ _ h => h) (Or.inr ⟨by rfl, rfl⟩) ?_ ?_
   rotate_left
   ·simp only [Act.put, List.setIfInBounds_toArray, List.set_cons_zero, List.set_cons_succ, i64_w, i32_w]
    rfl
   refine pure_ (i := 7) (N := some 14) (v := undef) (a' := ?_) #[true, true, true, true, true, true, true, true, false, false, false, false, false] rfl rfl (any_of HT_.out (by kernel_rfl)) (fun _ _ _ h => h) (Or.inr ⟨by rfl, rfl⟩) ?_ ?_
   rotate_left
   ·simp only [Act.put, List.setIfInBounds_toArray, List.set_cons_zero, List.set_cons_succ, i64_w, i32_w]
    rfl
   refine pure_ (i := 8) (N := some 15) (v := undef) (a' := ?_) #[true, true, true, true, true, true, true, true, true, false, false, false, false] rfl rfl (any_of HT_.out (by kernel_rfl)) (fun _ _ _ h => h) (Or.inr ⟨by rfl, rfl⟩) ?_ ?_
   rotate_left
   ·simp only [Act.put, List.setIfInBounds_toArray, List.set_cons_zero, List.set_cons_succ, i64_w, i32_w]
    rfl
   refine pure_ (i := 9) (N := some 16) (v := undef) (a' := ?_) #[true, true, true, true, true, true, true, true, true, true, false, false, false] rfl rfl (any_of HT_.out (by kernel_rfl)) (fun _ _ _ h => h) (Or.inr ⟨by rfl, rfl⟩) ?_ ?_
   rotate_left
   ·simp only [Act.put, List.setIfInBounds_toArray, List.set_cons_zero, List.set_cons_succ, i64_w, i32_w]
    rfl
   refine pure_ (i := 10) (N := some 17) (v := undef) (a' := ?_) #[true, true, true, true, true, true, true, true, true, true, true, false, false] rfl rfl (any_of HT_.out (by kernel_rfl)) (fun _ _ _ h => h) (Or.inr ⟨by rfl, rfl⟩) ?_ ?_
   rotate_left
   ·simp only [Act.put, List.setIfInBounds_toArray, List.set_cons_zero, List.set_cons_succ, i64_w, i32_w]
    rfl
   refine pure_ (i := 11) (N := some 18) (v := undef) (a' := ?_) #[true, true, true, true, true, true, true, true, true, true, true, true, false] rfl rfl (any_of HT_.out (by kernel_rfl)) (fun _ _ _ h => h) (Or.inr ⟨by rfl, rfl⟩) ?_ ?_
   rotate_left
   ·simp only [Act.put, List.setIfInBounds_toArray, List.set_cons_zero, List.set_cons_succ, i64_w, i32_w]
    rfl
   refine pU 12 19 #[true, true, true, true, true, true, true, true, true, true, true, true, true] HT_ ?_
   refine done_ (done_of HT_.out (by kernel_rfl)) ?_
   try go_wp2
   go_meet
   case rel => exact ⟨_, (true), (by first | rfl | (simp; done) | (simp [*]; done)), H', ⟨by first | omega | exact Nat.le_refl _⟩, ⟨bk BK130⟩, ⟨hzs HB⟩⟩
 case rest =>
  clear HC2
  try clear p2
  try clear c4
  try clear c5
  try clear c6
  obtain ⟨kq, x19_1, rfl, HA, HJ1, BK130, HB⟩ := hcut
  cases kq with
  | zero => exact absurd HA.out (by simp [impl_Expr_size.j0])
  | succ kj1 =>
   have H := HA.out
   clear HA
   simp only [impl_Expr_size.j0] at H
   by_cases c10 : x19_1 = true
   ·subst c10
    rw [if_pos rfl] at H
    obtain rfl := Option.some.inj H
    go_wp2
    go_ret
    exact ⟨by first | rfl | (simp [errW_none, errW_some] <;> rfl) | (simp [*, errW_none, errW_some] <;> rfl), hzs HB⟩
   ·replace c10 := Bool.eq_false_iff.mpr c10
    subst c10
    rw [if_neg (show ¬ (false = true) by decide)] at H
    have HC11 := Aside0.mk H
    clear H
    go_upto_region 3 with (fail)
    go_cut [3] (fun v3 wc => ∃ (kq : Nat) (x3_10 : Bool), v3 = .bool x3_10 ∧ Aside0 (impl_Expr_size.j1 kq x3_10 a0_0 a0_1 a0_2 l0_3 = some r) ∧ Aside0 (kq ≤ kj1) ∧ Aside0 (wc.heap[gb130]? = some (.cells #[.int .i64 a0_0, .int .i64 a0_1, .int .i64 a0_2, (.slice A0_3 l0_3.length c0_3)] 25 (0, 0))) ∧ Aside0 (Below w.heap.size w wc))
    case first =>
     have H := HC11.out
     clear HC11
     by_cases c12 : a0_1 = 0
     ·rw [if_pos c12] at H
      have c12b0 : (a0_1 == 0) = true := beq_iff_eq.mpr c12
      have c12b1 : (a0_1 != 0) = false := bne_eq_false_iff_eq.mpr c12
      clear c12
      (first | rw [c12b0] | (simp only [i64_w, i32_w]; rw [c12b0]) | skip)
      have H' := Aside0.mk H
      clear H
      obtain ⟨hcz13_0, hcz13_1, hcz13_2, hcz13_3, hfz13_0, hfz13_1, hfz13_2, hfz13_3⟩ := cz4 BK130
      go_wp2
      go_meet
      case rel => exact ⟨_, ((a0_2 == 0)), (by first | rfl | (simp; done) | (simp [*]; done)), H', ⟨by have := HJ1.out; first | omega | exact Nat.le_refl _⟩, ⟨bk BK130⟩, ⟨hzs HB⟩⟩
     ·rw [if_neg c12] at H
      have c12b0 : (a0_1 == 0) = false := beq_eq_false_iff_ne.mpr c12
      have c12b1 : (a0_1 != 0) = true := bne_iff_ne.mpr c12
      (first | rw [c12b0] | (simp only [i64_w, i32_w]; rw [c12b0]) | skip)
      have H' := Aside0.mk H
      clear H
      obtain ⟨hcz14_0, hcz14_1, hcz14_2, hcz14_3, hfz14_0, hfz14_1, hfz14_2, hfz14_3⟩ := cz4 BK130
      go_wp2
      go_meet
      case rel => exact ⟨_, (false), (by first | rfl | (simp; done) | (simp [*]; done)), H', ⟨by have := HJ1.out; first | omega | exact Nat.le_refl _⟩, ⟨bk BK130⟩, ⟨hzs HB⟩⟩
    case rest =>
     clear HC11
     try clear c1
     try clear p2
     try clear c4
     try clear c5
     try clear c6
     try clear c10
     try clear c12
     try clear c12b0
     try clear c12b1
     try clear hcz13_0 hcz13_1 hcz13_2 hcz13_3
     try clear hcz14_0 hcz14_1 hcz14_2 hcz14_3
     try clear hfz13_0 hfz13_1 hfz13_2 hfz13_3
     try clear hfz14_0 hfz14_1 hfz14_2 hfz14_3
     try clear p2
     obtain ⟨kq, x3_10, rfl, HA, HJ10, BK130, HB⟩ := hcut
     cases kq with
     | zero => exact absurd HA.out (by simp [impl_Expr_size.j1])
     | succ kj10 =>
      have H := HA.out
      clear HA
      simp only [impl_Expr_size.j1] at H
      have HC15 := Aside0.mk H
      clear H
      obtain ⟨hcz16_0, hcz16_1, hcz16_2, hcz16_3, hfz16_0, hfz16_1, hfz16_2, hfz16_3⟩ := cz4 BK130
      go_upto_block 0 with (fail)
      go_cut [3] (fun v3 wc => ∃ (kq : Nat) (x3_14 : Bool), v3 = .bool x3_14 ∧ Aside0 (impl_Expr_size.j2 kq x3_14 a0_0 a0_1 a0_2 l0_3 = some r) ∧ Aside0 (kq ≤ kj10) ∧ Aside0 (wc.heap[gb130]? = some (.cells #[.int .i64 a0_0, .int .i64 a0_1, .int .i64 a0_2, (.slice A0_3 l0_3.length c0_3)] 25 (0, 0))) ∧ Aside0 (Below w.heap.size w wc))
      case first =>
       have H := HC15.out
       clear HC15
       by_cases c17 : a0_0 = 1
       ·rw [if_pos c17] at H
        have c17b0 : (a0_0 == 1) = true := beq_iff_eq.mpr c17
        have c17b1 : (a0_0 != 1) = false := bne_eq_false_iff_eq.mpr c17
        clear c17
        (first | rw [c17b0] | (simp only [i64_w, i32_w]; rw [c17b0]) | skip)
        replace H := Option.bind_eq_some_iff.mp H
        obtain ⟨t133, A180, H⟩ := H
        try dsimp only at H
        have A18 := Aside0.mk A180
        clear A180
        by_cases c19 : t133 = true
        ·subst c19
         rw [if_pos rfl] at H
         replace H := Option.bind_eq_some_iff.mp H
         obtain ⟨t134, A200, H⟩ := H
         try dsimp only at H
         have A20 := Aside0.mk A200
         clear A200
         have H' := Aside0.mk H
         clear H
         obtain ⟨hcz21_0, hcz21_1, hcz21_2, hcz21_3, hfz21_0, hfz21_1, hfz21_2, hfz21_3⟩ := cz4 BK130
         go_wp2_with (first | ((with_reducible refine gate_callee (f := 42) rfl ?_); refine gL 34 Try.func42 #[.int .i64 a0_1, .int .i64 (-1000), .int .i64 1000] ?_; (with_reducible refine (impl_in.calls a0_1 (-1000) 1000 true _ A18.out).mono ?_); rintro e w' ⟨rfl, ⟨nd, rfl⟩⟩; refine ⟨_, rfl, ?_⟩) | (go_at_call 42; (with_reducible refine (impl_in.calls a0_2 1 1000 t134 _ A20.out).mono ?_); rintro e w' ⟨rfl, ⟨nd, rfl⟩⟩))
         go_meet
         case rel => exact ⟨_, (t134), (by first | rfl | (simp; done) | (simp [*]; done)), H', ⟨by have := HJ1.out; have := HJ10.out; first | omega | exact Nat.le_refl _⟩, ⟨bk BK130⟩, ⟨hzs HB⟩⟩
        ·replace c19 := Bool.eq_false_iff.mpr c19
         subst c19
         rw [if_neg (show ¬ (false = true) by decide)] at H
         have H' := Aside0.mk H
         clear H
         obtain ⟨hcz22_0, hcz22_1, hcz22_2, hcz22_3, hfz22_0, hfz22_1, hfz22_2, hfz22_3⟩ := cz4 BK130
         go_wp2_with (first | ((with_reducible refine gate_callee (f := 42) rfl ?_); refine gL 34 Try.func42 #[.int .i64 a0_1, .int .i64 (-1000), .int .i64 1000] ?_; (with_reducible refine (impl_in.calls a0_1 (-1000) 1000 false _ A18.out).mono ?_); rintro e w' ⟨rfl, ⟨nd, rfl⟩⟩; refine ⟨_, rfl, ?_⟩))
         go_meet
         case rel => exact ⟨_, (false), (by first | rfl | (simp; done) | (simp [*]; done)), H', ⟨by have := HJ1.out; have := HJ10.out; first | omega | exact Nat.le_refl _⟩, ⟨bk BK130⟩, ⟨hzs HB⟩⟩
       ·rw [if_neg c17] at H
        have c17b0 : (a0_0 == 1) = false := beq_eq_false_iff_ne.mpr c17
        have c17b1 : (a0_0 != 1) = true := bne_iff_ne.mpr c17
        (first | rw [c17b0] | (simp only [i64_w, i32_w]; rw [c17b0]) | skip)
        by_cases c23 : a0_0 = 4
        ·rw [if_pos c23] at H
         have c23b0 : (a0_0 == 4) = true := beq_iff_eq.mpr c23
         have c23b1 : (a0_0 != 4) = false := bne_eq_false_iff_eq.mpr c23
         clear c23
         replace H := Option.bind_eq_some_iff.mp H
         obtain ⟨t135, A240, H⟩ := H
         try dsimp only at H
         have A24 := Aside0.mk A240
         clear A240
         by_cases c25 : t135 = true
         ·subst c25
          rw [if_pos rfl] at H
          have H' := Aside0.mk H
          clear H
          obtain ⟨hcz26_0, hcz26_1, hcz26_2, hcz26_3, hfz26_0, hfz26_1, hfz26_2, hfz26_3⟩ := cz4 BK130
          go_wp2_with (first | ((with_reducible refine gate_callee (f := 68) rfl ?_); refine gL 44 Try.func68 #[.int .i64 a0_1] ?_; (with_reducible refine (impl_aTurn.calls a0_1 true _ A24.out).mono ?_); rintro e w' ⟨rfl, ⟨nd, rfl⟩⟩; refine ⟨_, rfl, ?_⟩))
          go_meet
          case rel => exact ⟨_, ((a0_2 == 0)), (by first | rfl | (simp; done) | (simp [*]; done)), H', ⟨by have := HJ1.out; have := HJ10.out; first | omega | exact Nat.le_refl _⟩, ⟨bk BK130⟩, ⟨hzs HB⟩⟩
         ·replace c25 := Bool.eq_false_iff.mpr c25
          subst c25
          rw [if_neg (show ¬ (false = true) by decide)] at H
          have H' := Aside0.mk H
          clear H
          obtain ⟨hcz27_0, hcz27_1, hcz27_2, hcz27_3, hfz27_0, hfz27_1, hfz27_2, hfz27_3⟩ := cz4 BK130
          go_wp2_with (first | ((with_reducible refine gate_callee (f := 68) rfl ?_); refine gL 44 Try.func68 #[.int .i64 a0_1] ?_; (with_reducible refine (impl_aTurn.calls a0_1 false _ A24.out).mono ?_); rintro e w' ⟨rfl, ⟨nd, rfl⟩⟩; refine ⟨_, rfl, ?_⟩))
          go_meet
          case rel => exact ⟨_, (false), (by first | rfl | (simp; done) | (simp [*]; done)), H', ⟨by have := HJ1.out; have := HJ10.out; first | omega | exact Nat.le_refl _⟩, ⟨bk BK130⟩, ⟨hzs HB⟩⟩
        ·rw [if_neg c23] at H
         have c23b0 : (a0_0 == 4) = false := beq_eq_false_iff_ne.mpr c23
         have c23b1 : (a0_0 != 4) = true := bne_iff_ne.mpr c23
         have H' := Aside0.mk H
         clear H
         go_wp2
         go_meet
         case rel => exact ⟨_, (x3_10), (by first | rfl | (simp; done) | (simp [*]; done)), H', ⟨by have := HJ1.out; have := HJ10.out; first | omega | exact Nat.le_refl _⟩, ⟨bk BK130⟩, ⟨hzs HB⟩⟩
      case rest =>
       clear HC15
       try clear c1
       try clear c2
       try clear p2
       try clear c4
       try clear c5
       try clear c6
       try clear c10
       try clear c12
       try clear c12b0
       try clear c12b1
       try clear c17
       try clear c17b0
       try clear c17b1
       try clear c19
       try clear c23
       try clear c23b0
       try clear c23b1
       try clear c25
       try clear hcz13_0 hcz13_1 hcz13_2 hcz13_3
       try clear hcz14_0 hcz14_1 hcz14_2 hcz14_3
       try clear hcz16_0 hcz16_1 hcz16_2 hcz16_3
       try clear hcz21_0 hcz21_1 hcz21_2 hcz21_3
       try clear hcz22_0 hcz22_1 hcz22_2 hcz22_3
       try clear hcz26_0 hcz26_1 hcz26_2 hcz26_3
       try clear hcz27_0 hcz27_1 hcz27_2 hcz27_3
       try clear hfz13_0 hfz13_1 hfz13_2 hfz13_3
       try clear hfz14_0 hfz14_1 hfz14_2 hfz14_3
       try clear hfz16_0 hfz16_1 hfz16_2 hfz16_3
       try clear hfz21_0 hfz21_1 hfz21_2 hfz21_3
       try clear hfz22_0 hfz22_1 hfz22_2 hfz22_3
       try clear hfz26_0 hfz26_1 hfz26_2 hfz26_3
       try clear hfz27_0 hfz27_1 hfz27_2 hfz27_3
       try clear p2
       obtain ⟨kq, x3_14, rfl, HA, HJ14, BK130, HB⟩ := hcut
       cases kq with
       | zero => exact absurd HA.out (by simp [impl_Expr_size.j2])
       | succ kj14 =>
        have H := HA.out
        clear HA
        simp only [impl_Expr_size.j2] at H
        by_cases c28 : x3_14 = true
        ·subst c28
         rw [if_pos rfl] at H
         have H' := Aside0.mk H
         clear H
         obtain ⟨hcz29_0, hcz29_1, hcz29_2, hcz29_3, hfz29_0, hfz29_1, hfz29_2, hfz29_3⟩ := cz4 BK130
         go_wp2
         go_loopg [4, 55] kj14 (fun kq v4 v55 w' => ∃ (x4_4 : Int) (x55_4 : Int), v4 = .int .i64 x4_4 ∧ v55 = .int .i64 x55_4 ∧ Aside0 (impl_Expr_size.l0 kq x4_4 l0_3 (l0_3.length : Int) x55_4 = some r) ∧ Aside0 (kq ≤ kj14) ∧ Aside0 (w'.heap[gb130]? = some (.cells #[.int .i64 a0_0, .int .i64 a0_1, .int .i64 a0_2, (.slice A0_3 l0_3.length c0_3)] 25 (0, 0))) ∧ Aside0 (Below w.heap.size w w'))
         case atStart => exact ⟨(1), (0), (by first | rfl | (simp; done) | (simp [*]; done)), (by first | rfl | (simp; done) | (simp [*]; done)), H', ⟨Nat.le_refl _⟩, ⟨bk BK130⟩, ⟨hzs HB⟩⟩
         case round =>
          clear H'
          try clear c1
          try clear c2
          try clear p2
          try clear c4
          try clear c5
          try clear c6
          try clear c10
          try clear c12
          try clear c12b0
          try clear c12b1
          try clear c17
          try clear c17b0
          try clear c17b1
          try clear c19
          try clear c23
          try clear c23b0
          try clear c23b1
          try clear c25
          try clear c28
          try clear hcz13_0 hcz13_1 hcz13_2 hcz13_3
          try clear hcz14_0 hcz14_1 hcz14_2 hcz14_3
          try clear hcz16_0 hcz16_1 hcz16_2 hcz16_3
          try clear hcz21_0 hcz21_1 hcz21_2 hcz21_3
          try clear hcz22_0 hcz22_1 hcz22_2 hcz22_3
          try clear hcz26_0 hcz26_1 hcz26_2 hcz26_3
          try clear hcz27_0 hcz27_1 hcz27_2 hcz27_3
          try clear hcz29_0 hcz29_1 hcz29_2 hcz29_3
          try clear hfz13_0 hfz13_1 hfz13_2 hfz13_3
          try clear hfz14_0 hfz14_1 hfz14_2 hfz14_3
          try clear hfz16_0 hfz16_1 hfz16_2 hfz16_3
          try clear hfz21_0 hfz21_1 hfz21_2 hfz21_3
          try clear hfz22_0 hfz22_1 hfz22_2 hfz22_3
          try clear hfz26_0 hfz26_1 hfz26_2 hfz26_3
          try clear hfz27_0 hfz27_1 hfz27_2 hfz27_3
          try clear hfz29_0 hfz29_1 hfz29_2 hfz29_3
          try clear p2
          obtain ⟨x4_4, x55_4, rfl, rfl, HA, HK4, BK130, HB⟩ := hrel
          cases gk with
          | zero => exact absurd HA.out (by simp [impl_Expr_size.l0])
          | succ k4 =>
           have H := HA.out
           clear HA
           simp only [impl_Expr_size.l0] at H
           by_cases c30 : x55_4 < (l0_3.length : Int)
           ·rw [if_pos c30] at H
            have c30b0 : decide (x55_4 < (l0_3.length : Int)) = true := decide_eq_true c30
            clear c30
            by_cases c31 : 0 ≤ x55_4
            ·rw [if_pos c31] at H
             have c31b0 : decide (0 ≤ x55_4) = true := decide_eq_true c31
             clear c31
             by_cases c32 : x55_4 < (l0_3.length : Int)
             ·rw [if_pos c32] at H
              have c32b0 : decide (x55_4 < (l0_3.length : Int)) = true := decide_eq_true c32
              clear c32
              replace H := Option.bind_eq_some_iff.mp H
              obtain ⟨t138, A330, H⟩ := H
              try dsimp only at H
              have A33 := Aside0.mk A330
              clear A330
              have H' := Aside0.mk H
              clear H
              have p136 : 0 ≤ (x55_4 : Int) := of_decide_eq_true (by first | (with_reducible assumption) | assumption)
              have q136 : x55_4 < (l0_3.length : Int) := of_decide_eq_true (by first | (with_reducible assumption) | assumption)
              obtain ⟨ad136, A136_3, c136_3, e136, hx136_0, hx136_1, hx136_2, hx136_3, hl136_3, hi136_3⟩ := at_T25 HR0_3.out x55_4 p136 q136
              cases e136
              replace hx136_0 := (HB.out.cell (World.block_lt_of_cell? w _ hx136_0)).trans hx136_0
              replace hx136_1 := (HB.out.cell (World.block_lt_of_cell? w _ hx136_1)).trans hx136_1
              replace hx136_2 := (HB.out.cell (World.block_lt_of_cell? w _ hx136_2)).trans hx136_2
              replace hx136_3 := (HB.out.cell (World.block_lt_of_cell? w _ hx136_3)).trans hx136_3
              have HR136_3 := Aside0.mk hi136_3
              have HC136_3 := Aside0.mk hl136_3
              clear hi136_3 hl136_3
              replace p136 := eq_true p136
              replace q136 := eq_true q136
              go_wp2_with (first | ((with_reducible refine gate_dst (N := 6) rfl ?_); (try (refine gate_guard (by rfl) ?_; dsimp only)); refine bE 6 #[.int .i64 0, .int .i64 0, .int .i64 0, .slice none 0 0] 25 ?_; intro gb137 hg w34 hbox hb; have BK137 := Aside0.mk (hbox); have GE137 := gw hg (hzs HB); have NB130_137 := nl hg (bk BK130); have NB137_130 := ng hg (bk BK130); replace BK130 := bb (bk BK130) hb; replace HB := hbb (hzs HB) hb; clear hb hbox hg; have hnb35 := NB137_130.out; have hnc35 := NB130_137.out; obtain ⟨hcz36_0, hcz36_1, hcz36_2, hcz36_3, hfz36_0, hfz36_1, hfz36_2, hfz36_3⟩ := cz4 BK137) | ((with_reducible refine gate_callee (f := 47) rfl ?_); refine gL 61 Try.func47 #[.agg #[.int .i64 ((rd_T25 l0_3 x55_4).f0), .int .i64 ((rd_T25 l0_3 x55_4).f1), .int .i64 ((rd_T25 l0_3 x55_4).f2), .slice A136_3 ((rd_T25 l0_3 x55_4).f3).length c136_3]] ?_; (with_reducible refine (ih k4 (by have := HJ1.out; have := HJ10.out; have := HJ14.out; have := HK4.out; omega) ((rd_T25 l0_3 x55_4).f0) ((rd_T25 l0_3 x55_4).f1) ((rd_T25 l0_3 x55_4).f2) _ _ ((rd_T25 l0_3 x55_4).f3) t138 _ ?side1 ?side2 A33.out).mono ?_); (case side1 => exact Kd.C_below HR136_3.out (hzs HB)); (case side2 => exact HC136_3.out); rintro e w37 ⟨rfl, hb⟩; refine ⟨_, rfl, ?_⟩; replace BK130 := bb (bk1 BK130 NB130_137) hb; replace BK137 := Aside0.mk (blk_below (g := gb137) (o := .cells #[.int .i64 ((rd_T25 l0_3 x55_4).f0), .int .i64 ((rd_T25 l0_3 x55_4).f1), .int .i64 ((rd_T25 l0_3 x55_4).f2), .slice A136_3 ((rd_T25 l0_3 x55_4).f3).length c136_3] 25 (0, 0)) (by (with_reducible repeat (first | refine blk_drewN ?_ _ | refine blk_drew ?_ | refine blk_alloc ?_ _)); refine blk_put (cs := #[.int .i64 ((rd_T25 l0_3 x55_4).f0), .int .i64 ((rd_T25 l0_3 x55_4).f1), .int .i64 ((rd_T25 l0_3 x55_4).f2), .slice none 0 0]) ?_ 3 _ rfl; (with_reducible repeat (first | refine blk_drewN ?_ _ | refine blk_drew ?_ | refine blk_alloc ?_ _)); refine blk_put (cs := #[.int .i64 ((rd_T25 l0_3 x55_4).f0), .int .i64 ((rd_T25 l0_3 x55_4).f1), .int .i64 0, .slice none 0 0]) ?_ 2 _ rfl; (with_reducible repeat (first | refine blk_drewN ?_ _ | refine blk_drew ?_ | refine blk_alloc ?_ _)); refine blk_put (cs := #[.int .i64 ((rd_T25 l0_3 x55_4).f0), .int .i64 0, .int .i64 0, .slice none 0 0]) ?_ 1 _ rfl; (with_reducible repeat (first | refine blk_drewN ?_ _ | refine blk_drew ?_ | refine blk_alloc ?_ _)); refine blk_put (cs := #[.int .i64 0, .int .i64 0, .int .i64 0, .slice none 0 0]) ?_ 0 _ rfl; (with_reducible repeat (first | refine blk_drewN ?_ _ | refine blk_drew ?_ | refine blk_alloc ?_ _)); exact BK137.out) hb); replace HB := hbb (hzs HB) hb; clear hb))
              go_roundg k4
              case measure => have := HJ1.out; have := HJ10.out; have := HJ14.out; have := HK4.out; omega
              case rel => exact ⟨(wrap64 (x4_4 + t138)), (wrap64 (x55_4 + 1)), (by first | rfl | (simp; done) | (simp [*]; done)), (by first | rfl | (simp; done) | (simp [*]; done)), H', ⟨by have := HJ1.out; have := HJ10.out; have := HJ14.out; have := HK4.out; omega⟩, ⟨bk BK130⟩, ⟨hzs HB⟩⟩
             ·rw [if_neg c32] at H
              exact absurd H (by simp)
            ·rw [if_neg c31] at H
             exact absurd H (by simp)
           ·rw [if_neg c30] at H
            have c30b0 : decide (x55_4 < (l0_3.length : Int)) = false := decide_eq_false c30
            clear c30
            obtain rfl := Option.some.inj H
            go_wp2
            go_ret
            exact ⟨by first | rfl | (simp [errW_none, errW_some] <;> rfl) | (simp [*, errW_none, errW_some] <;> rfl), hzs HB⟩
        ·replace c28 := Bool.eq_false_iff.mpr c28
         subst c28
         rw [if_neg (show ¬ (false = true) by decide)] at H
         obtain rfl := Option.some.inj H
         go_wp2
         go_ret
         exact ⟨by first | rfl | (simp [errW_none, errW_some] <;> rfl) | (simp [*, errW_none, errW_some] <;> rfl), hzs HB⟩


/-! ### impl_ExprOk: function 23 -/
def impl_ExprOk.f (k : Nat) (a0_0 : Int) (a0_1 : Int) (a0_2 : Int) (l0_3 : List (S25)) : Option (Bool) := (impl_Expr_size.f k a0_0 a0_1 a0_2 l0_3).bind fun t140 => (some (decide (t140 ≤ 15)))
set_option maxHeartbeats 8000000 in
set_option maxRecDepth 100000 in
theorem impl_ExprOk.calls (k : Nat) (a0_0 : Int) (a0_1 : Int) (a0_2 : Int) (A0_3 : Option Addr) (c0_3 : Nat) (l0_3 : List (S25)) (r : Bool) (w : World) (hr0_3 : Kd.C k25 w A0_3 l0_3.length l0_3) (hc0_3 : l0_3.length ≤ c0_3) (h : impl_ExprOk.f k a0_0 a0_1 a0_2 l0_3 = some r) :
  Calls Try.prog 23 #[.agg #[.int .i64 a0_0, .int .i64 a0_1, .int .i64 a0_2, .slice A0_3 l0_3.length c0_3]] w fun e w' => e = .returned (.bool r) ∧ Below w.heap.size w w' := by
 have hu25 := Try.underlying25
 have HR0_3 := Aside0.mk hr0_3
 have HC0_3 := Aside0.mk hc0_3
 clear hr0_3 hc0_3
 have HB := Aside0.mk (Below.refl w.heap.size w)
 have H := h
 clear h
 unfold impl_ExprOk.f at H
 replace H := Option.bind_eq_some_iff.mp H
 obtain ⟨t140, A20, H⟩ := H
 try dsimp only at H
 have A2 := Aside0.mk A20
 clear A20
 obtain rfl := Option.some.inj H
 go_enter Try.func23, Try.ntmps23
 go_wp2_with (first | ((with_reducible refine gate_dst (N := 1) rfl ?_); refine bE 1 #[.int .i64 a0_0, .int .i64 a0_1, .int .i64 a0_2, .slice A0_3 l0_3.length c0_3] 25 ?_; intro gb139 hg w3 hbox hb; have BK139 := Aside0.mk (hbox); have GE139 := gw hg (hz0 HB); replace HB := hbb (hz0 HB) hb; clear hb hbox hg; obtain ⟨hcz4_0, hcz4_1, hcz4_2, hcz4_3, hfz4_0, hfz4_1, hfz4_2, hfz4_3⟩ := cz4 BK139) | ((with_reducible refine gate_callee (f := 47) rfl ?_); refine gL 4 Try.func47 #[.agg #[.int .i64 a0_0, .int .i64 a0_1, .int .i64 a0_2, .slice A0_3 l0_3.length c0_3]] ?_; (with_reducible refine (impl_Expr_size.calls k a0_0 a0_1 a0_2 _ _ l0_3 t140 _ ?side1 ?side2 A2.out).mono ?_); (case side1 => repeat (first | exact (Kd.C_below HR0_3.out HB.out) | (with_reducible refine Kd.C_alloc ?_ _) | (with_reducible refine Kd.C_drewN ?_ _) | (with_reducible refine Kd.C_drew ?_))); (case side2 => exact HC0_3.out); rintro e w5 ⟨rfl, hb⟩; refine ⟨_, rfl, ?_⟩; replace BK139 := bb (bk BK139) hb; replace HB := hbb (hzs HB) hb; clear hb))
 go_ret
 exact ⟨by first | rfl | (simp [errW_none, errW_some] <;> rfl) | (simp [*, errW_none, errW_some] <;> rfl), hzs HB⟩


end Go.Proofs.Ytlodpfddimeffaa.M
