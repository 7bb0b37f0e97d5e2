import Derived.Test.YtcdgplkmahabiaaM0
import Derived.Test.YtcdgplkmahabiaaNa
namespace Go.Proofs.Ytcdgplkmahabiaa.M
open Go.RowKit Go.Proofs.YtcdgplkmahabiaaW.PrintWords Go.Proofs.YtcdgplkmahabiaaW.PrintLast Go.Proofs.YtcdgplkmahabiaaW.PrintMore
attribute [local go_sem] max2_int min2_int max_two min_two max_three min_three max_four min_four
attribute [local go_sem high] eqA23 eqA30
attribute [local go_sem] fld23_0 fld23_1 fld30_0 fld30_1 fld55_0 fld55_1 fld55_2 fld55_3 fld55_4
set_option linter.unusedVariables false
set_option linter.unusedSimpArgs false

/-! ### spec_l12Row: function 89 -/
mutual
def spec_l12Row.l0 : Nat → Int → Int → Int → Int → Int → Int → Bool → Option (Int × Int)
 | 0, _, _, _, _, _, _, _ => none
 | k + 1, x1, x2, x7, x8, x9, x10, x11 => if x10 > 0 then (spec_l12Row.j1 k x1 x2 x7 x8 x9 x10 x11 (decide (x2 < 40))) else (spec_l12Row.j1 k x1 x2 x7 x8 x9 x10 x11 false)
def spec_l12Row.j1 : Nat → Int → Int → Int → Int → Int → Int → Bool → Bool → Option (Int × Int)
 | 0, _, _, _, _, _, _, _, _ => none
 | k + 1, x1, x2, x7, x8, x9, x10, x11, x21 => if x21 = true then ((spec_l12Times.f x1 x1 false).bind fun t154 => ((spec_l12Times.f x9 t154 false).bind fun t155 => ((spec_l12Over.f t155 (wrap64 (x2 * (wrap64 (x2 + 1)))) false).bind fun t156 => ((spec_l12Times.f x1 x1 true).bind fun t157 => ((spec_l12Times.f x10 t157 true).bind fun t158 => ((spec_l12Over.f t158 (wrap64 (x2 * (wrap64 (x2 + 1)))) true).bind fun t159 => (if t159 = 1 then (spec_l12Row.j2 k x1 x2 x7 x8 t156 t159 x11 (t156 == 0)) else (spec_l12Row.j2 k x1 x2 x7 x8 t156 t159 x11 false)))))))) else (some (x7, x8))
def spec_l12Row.j2 : Nat → Int → Int → Int → Int → Int → Int → Bool → Bool → Option (Int × Int)
 | 0, _, _, _, _, _, _, _, _ => none
 | k + 1, x1, x2, x7, x8, x9, x10, x11, x47 => if x47 = true then (some (wrap64 (x7 - 1), wrap64 (x8 + 1))) else (if x11 = true then (spec_l12Row.l0 k x1 (wrap64 (x2 + 2)) (wrap64 (x7 - x10)) (wrap64 (x8 - x9)) x9 x10 (!x11)) else (spec_l12Row.l0 k x1 (wrap64 (x2 + 2)) (wrap64 (x7 + x9)) (wrap64 (x8 + x10)) x9 x10 (!x11)))
end
def spec_l12Row.f (k : Nat) (a0 : Int) (a1 : Int) (a2 : Int) : Option (Int × Int) := spec_l12Row.l0 k a1 a2 a0 a0 a0 a0 true
theorem spec_l12Row.mono_l : ∀ k, (∀ y0 y1 y2 y3 y4 y5 y6, LeO (spec_l12Row.l0 k y0 y1 y2 y3 y4 y5 y6) (spec_l12Row.l0 (k + 1) y0 y1 y2 y3 y4 y5 y6)) ∧ (∀ y0 y1 y2 y3 y4 y5 y6 y7, LeO (spec_l12Row.j1 k y0 y1 y2 y3 y4 y5 y6 y7) (spec_l12Row.j1 (k + 1) y0 y1 y2 y3 y4 y5 y6 y7)) ∧ (∀ y0 y1 y2 y3 y4 y5 y6 y7, LeO (spec_l12Row.j2 k y0 y1 y2 y3 y4 y5 y6 y7) (spec_l12Row.j2 (k + 1) y0 y1 y2 y3 y4 y5 y6 y7))
 | 0 => ⟨fun _ _ _ _ _ _ _ r h => by simp [spec_l12Row.l0] at h, fun _ _ _ _ _ _ _ _ r h => by simp [spec_l12Row.j1] at h, fun _ _ _ _ _ _ _ _ r h => by simp [spec_l12Row.j2] at h⟩
 | k + 1 => by
  obtain ⟨ih0, ih1, ih2⟩ := spec_l12Row.mono_l k
  refine ⟨?_, ?_, ?_⟩
  ·intro y0 y1 y2 y3 y4 y5 y6
   unfold spec_l12Row.l0
   repeat' first
   | (with_reducible exact ih0 _ _ _ _ _ _ _)
   | (with_reducible exact ih1 _ _ _ _ _ _ _ _)
   | (with_reducible exact ih2 _ _ _ _ _ _ _ _)
   | (with_reducible exact LeO.refl _)
   | (with_reducible exact LeO.none _)
   | (with_reducible refine LeO.ite ?_ ?_)
   | (with_reducible refine LeO.bind ?_ (fun _ => ?_))
   | exact ih0 _ _ _ _ _ _ _
   | exact ih1 _ _ _ _ _ _ _ _
   | exact ih2 _ _ _ _ _ _ _ _
   | exact LeO.none _
   | refine LeO.ite ?_ ?_
   | refine LeO.bind ?_ (fun _ => ?_)
  ·intro y0 y1 y2 y3 y4 y5 y6 y7
   unfold spec_l12Row.j1
   repeat' first
   | (with_reducible exact ih0 _ _ _ _ _ _ _)
   | (with_reducible exact ih1 _ _ _ _ _ _ _ _)
   | (with_reducible exact ih2 _ _ _ _ _ _ _ _)
   | (with_reducible exact LeO.refl _)
   | (with_reducible exact LeO.none _)
   | (with_reducible refine LeO.ite ?_ ?_)
   | (with_reducible refine LeO.bind ?_ (fun _ => ?_))
   | exact ih0 _ _ _ _ _ _ _
   | exact ih1 _ _ _ _ _ _ _ _
   | exact ih2 _ _ _ _ _ _ _ _
   | exact LeO.none _
   | refine LeO.ite ?_ ?_
   | refine LeO.bind ?_ (fun _ => ?_)
  ·intro y0 y1 y2 y3 y4 y5 y6 y7
   unfold spec_l12Row.j2
   repeat' first
   | (with_reducible exact ih0 _ _ _ _ _ _ _)
   | (with_reducible exact ih1 _ _ _ _ _ _ _ _)
   | (with_reducible exact ih2 _ _ _ _ _ _ _ _)
   | (with_reducible exact LeO.refl _)
   | (with_reducible exact LeO.none _)
   | (with_reducible refine LeO.ite ?_ ?_)
   | (with_reducible refine LeO.bind ?_ (fun _ => ?_))
   | exact ih0 _ _ _ _ _ _ _
   | exact ih1 _ _ _ _ _ _ _ _
   | exact ih2 _ _ _ _ _ _ _ _
   | exact LeO.none _
   | refine LeO.ite ?_ ?_
   | refine LeO.bind ?_ (fun _ => ?_)
theorem spec_l12Row.mono : ∀ a0 a1 a2 k, LeO (spec_l12Row.f k a0 a1 a2) (spec_l12Row.f (k + 1) a0 a1 a2) := by
 intro a0 a1 a2 k
 obtain ⟨ih0, ih1, ih2⟩ := spec_l12Row.mono_l k
 unfold spec_l12Row.f
 repeat' first
   | (with_reducible exact ih0 _ _ _ _ _ _ _)
   | (with_reducible exact ih1 _ _ _ _ _ _ _ _)
   | (with_reducible exact ih2 _ _ _ _ _ _ _ _)
   | (with_reducible exact LeO.refl _)
   | (with_reducible exact LeO.none _)
   | (with_reducible refine LeO.ite ?_ ?_)
   | (with_reducible refine LeO.bind ?_ (fun _ => ?_))
   | exact ih0 _ _ _ _ _ _ _
   | exact ih1 _ _ _ _ _ _ _ _
   | exact ih2 _ _ _ _ _ _ _ _
   | exact LeO.none _
   | refine LeO.ite ?_ ?_
   | refine LeO.bind ?_ (fun _ => ?_)
set_option maxHeartbeats 8000000 in
set_option maxRecDepth 100000 in
theorem spec_l12Row.calls (k : Nat) (a0 : Int) (a1 : Int) (a2 : Int) (r1 : Int) (r2 : Int) (w : World) (h : spec_l12Row.f k a0 a1 a2 = some (r1, r2)) :
  Calls Try.prog 89 #[.int .i64 a0, .int .i64 a1, .int .i64 a2] w fun e w' => e = .returned (.agg #[.int .i64 r1, .int .i64 r2]) ∧ Below w.heap.size w w' := by
 have hu23 := Try.underlying23
 have HB := Aside0.mk (Below.refl w.heap.size w)
 have H : (spec_l12Row.l0 k a1 a2 a0 a0 a0 a0 true) = some (r1, r2) := h
 clear h
 have H' := Aside0.mk H
 clear H
 go_enter Try.func89, Try.ntmps89
 go_wp2_with (first | ((with_reducible refine gate_dst (N := 6) rfl ?_); refine bE 6 #[.int .i64 0, .int .i64 0] 23 ?_; intro gb153 hg w4 hbox hb; have BK153 := Aside0.mk (hbox); have GE153 := gw hg (h0_ HB); have GW153 := GE153; replace HB := hbb (h0_ HB) hb; clear hb hbox hg))
 go_loopg [2, 7, 8, 9, 10, 11] k (fun kq v2 v7 v8 v9 v10 v11 w' => ∃ (x2_1 : Int) (x7_1 : Int) (x8_1 : Int) (x9_1 : Int) (x10_1 : Int) (x11_1 : Bool) (x154000_1 : Int) (x154001_1 : Int), v2 = .int .i64 x2_1 ∧ v7 = .int .i64 x7_1 ∧ v8 = .int .i64 x8_1 ∧ v9 = .int .i64 x9_1 ∧ v10 = .int .i64 x10_1 ∧ v11 = .bool x11_1 ∧ Aside0 (spec_l12Row.l0 kq a1 x2_1 x7_1 x8_1 x9_1 x10_1 x11_1 = some (r1, r2)) ∧ Aside0 (kq ≤ k) ∧ Aside0 (w'.heap[gb153]? = some (.cells #[.int .i64 x154000_1, .int .i64 x154001_1] 23 (0, 0))) ∧ Aside0 (Below w.heap.size w w'))
 case atStart => exact ⟨(a2), (a0), (a0), (a0), (a0), (true), (0), (0), (by first | rfl | (simp; done) | (simp [*]; done)), (by first | rfl | (simp; done) | (simp [*]; done)), (by first | rfl | (simp; done) | (simp [*]; done)), (by first | rfl | (simp; done) | (simp [*]; done)), (by first | rfl | (simp; done) | (simp [*]; done)), (by first | rfl | (simp; done) | (simp [*]; done)), H', ⟨Nat.le_refl _⟩, ⟨bk BK153⟩, ⟨hs_ HB⟩⟩
 case round =>
  clear H'
  try clear p2
  obtain ⟨x2_1, x7_1, x8_1, x9_1, x10_1, x11_1, x154000_1, x154001_1, rfl, rfl, rfl, rfl, rfl, rfl, HA, HK1, BK153, HB⟩ := hrel
  cases gk with
  | zero => exact absurd HA.out (by simp [spec_l12Row.l0])
  | succ k1 =>
   have H := HA.out
   clear HA
   simp only [spec_l12Row.l0] at H
   have HC5 := Aside0.mk H
   clear H
   go_upto_region 6 with (fail)
   go_cut [21] (fun v21 wc => ∃ (kq : Nat) (x21_4 : Bool), v21 = .bool x21_4 ∧ Aside0 (spec_l12Row.j1 kq a1 x2_1 x7_1 x8_1 x9_1 x10_1 x11_1 x21_4 = some (r1, r2)) ∧ Aside0 (kq ≤ k1) ∧ Aside0 (wc.heap[gb153]? = some (.cells #[.int .i64 x154000_1, .int .i64 x154001_1] 23 (0, 0))) ∧ Aside0 (Below w.heap.size w wc))
   case first =>
    have H := HC5.out
    clear HC5
    by_cases c6 : x10_1 > 0
    ·rw [if_pos c6] at H
     have c6b0 : decide (0 < x10_1) = true := decide_eq_true c6
     clear c6
     (first | rw [c6b0] | (simp only [i64_w, i32_w]; rw [c6b0]) | skip)
     have H' := Aside0.mk H
     clear H
     go_wp2
     go_meet
     case rel => exact ⟨_, (decide (x2_1 < 40)), (by first | rfl | (simp; done) | (simp [*]; done)), H', ⟨by have := HK1.out; first | omega | exact Nat.le_refl _⟩, ⟨bk BK153⟩, ⟨hs_ HB⟩⟩
    ·rw [if_neg c6] at H
     have c6b0 : decide (0 < x10_1) = false := decide_eq_false c6
     clear c6
     (first | rw [c6b0] | (simp only [i64_w, i32_w]; rw [c6b0]) | skip)
     have H' := Aside0.mk H
     clear H
     go_wp2
     go_meet
     case rel => exact ⟨_, (false), (by first | rfl | (simp; done) | (simp [*]; done)), H', ⟨by have := HK1.out; first | omega | exact Nat.le_refl _⟩, ⟨bk BK153⟩, ⟨hs_ HB⟩⟩
   case rest =>
    clear HC5
    try clear p2
    try clear c6
    try clear c6b0
    try clear p2
    obtain ⟨kq, x21_4, rfl, HA, HJ4, BK153, HB⟩ := hcut
    cases kq with
    | zero => exact absurd HA.out (by simp [spec_l12Row.j1])
    | succ kj4 =>
     have H := HA.out
     clear HA
     simp only [spec_l12Row.j1] at H
     by_cases c7 : x21_4 = true
     ·subst c7
      have H1 : ((spec_l12Times.f a1 a1 false).bind fun t154 => ((spec_l12Times.f x9_1 t154 false).bind fun t155 => ((spec_l12Over.f t155 (wrap64 (x2_1 * (wrap64 (x2_1 + 1)))) false).bind fun t156 => ((spec_l12Times.f a1 a1 true).bind fun t157 => ((spec_l12Times.f x10_1 t157 true).bind fun t158 => ((spec_l12Over.f t158 (wrap64 (x2_1 * (wrap64 (x2_1 + 1)))) true).bind fun t159 => (if t159 = 1 then (spec_l12Row.j2 kj4 a1 x2_1 x7_1 x8_1 t156 t159 x11_1 (t156 == 0)) else (spec_l12Row.j2 kj4 a1 x2_1 x7_1 x8_1 t156 t159 x11_1 false)))))))) = some (r1, r2) := by rw [if_pos rfl] at H; exact H
      clear H
      have H := H1
      clear H1
      replace H := Option.bind_eq_some_iff.mp H
      obtain ⟨t154, A80, H⟩ := H
      replace H : ((spec_l12Times.f x9_1 t154 false).bind fun t155 => ((spec_l12Over.f t155 (wrap64 (x2_1 * (wrap64 (x2_1 + 1)))) false).bind fun t156 => ((spec_l12Times.f a1 a1 true).bind fun t157 => ((spec_l12Times.f x10_1 t157 true).bind fun t158 => ((spec_l12Over.f t158 (wrap64 (x2_1 * (wrap64 (x2_1 + 1)))) true).bind fun t159 => (if t159 = 1 then (spec_l12Row.j2 kj4 a1 x2_1 x7_1 x8_1 t156 t159 x11_1 (t156 == 0)) else (spec_l12Row.j2 kj4 a1 x2_1 x7_1 x8_1 t156 t159 x11_1 false))))))) = some (r1, r2) := H
      have A8 := Aside0.mk A80
      clear A80
      replace H := Option.bind_eq_some_iff.mp H
      obtain ⟨t155, A90, H⟩ := H
      replace H : ((spec_l12Over.f t155 (wrap64 (x2_1 * (wrap64 (x2_1 + 1)))) false).bind fun t156 => ((spec_l12Times.f a1 a1 true).bind fun t157 => ((spec_l12Times.f x10_1 t157 true).bind fun t158 => ((spec_l12Over.f t158 (wrap64 (x2_1 * (wrap64 (x2_1 + 1)))) true).bind fun t159 => (if t159 = 1 then (spec_l12Row.j2 kj4 a1 x2_1 x7_1 x8_1 t156 t159 x11_1 (t156 == 0)) else (spec_l12Row.j2 kj4 a1 x2_1 x7_1 x8_1 t156 t159 x11_1 false)))))) = some (r1, r2) := H
      have A9 := Aside0.mk A90
      clear A90
      replace H := Option.bind_eq_some_iff.mp H
      obtain ⟨t156, A100, H⟩ := H
      replace H : ((spec_l12Times.f a1 a1 true).bind fun t157 => ((spec_l12Times.f x10_1 t157 true).bind fun t158 => ((spec_l12Over.f t158 (wrap64 (x2_1 * (wrap64 (x2_1 + 1)))) true).bind fun t159 => (if t159 = 1 then (spec_l12Row.j2 kj4 a1 x2_1 x7_1 x8_1 t156 t159 x11_1 (t156 == 0)) else (spec_l12Row.j2 kj4 a1 x2_1 x7_1 x8_1 t156 t159 x11_1 false))))) = some (r1, r2) := H
      have A10 := Aside0.mk A100
      clear A100
      replace H := Option.bind_eq_some_iff.mp H
      obtain ⟨t157, A110, H⟩ := H
      replace H : ((spec_l12Times.f x10_1 t157 true).bind fun t158 => ((spec_l12Over.f t158 (wrap64 (x2_1 * (wrap64 (x2_1 + 1)))) true).bind fun t159 => (if t159 = 1 then (spec_l12Row.j2 kj4 a1 x2_1 x7_1 x8_1 t156 t159 x11_1 (t156 == 0)) else (spec_l12Row.j2 kj4 a1 x2_1 x7_1 x8_1 t156 t159 x11_1 false)))) = some (r1, r2) := H
      have A11 := Aside0.mk A110
      clear A110
      replace H := Option.bind_eq_some_iff.mp H
      obtain ⟨t158, A120, H⟩ := H
      replace H : ((spec_l12Over.f t158 (wrap64 (x2_1 * (wrap64 (x2_1 + 1)))) true).bind fun t159 => (if t159 = 1 then (spec_l12Row.j2 kj4 a1 x2_1 x7_1 x8_1 t156 t159 x11_1 (t156 == 0)) else (spec_l12Row.j2 kj4 a1 x2_1 x7_1 x8_1 t156 t159 x11_1 false))) = some (r1, r2) := H
      have A12 := Aside0.mk A120
      clear A120
      replace H := Option.bind_eq_some_iff.mp H
      obtain ⟨t159, A130, H⟩ := H
      replace H : (if t159 = 1 then (spec_l12Row.j2 kj4 a1 x2_1 x7_1 x8_1 t156 t159 x11_1 (t156 == 0)) else (spec_l12Row.j2 kj4 a1 x2_1 x7_1 x8_1 t156 t159 x11_1 false)) = some (r1, r2) := H
      have A13 := Aside0.mk A130
      clear A130
      have HC14 := Aside0.mk H
      clear H
      go_upto_region 9 with (first | ((with_reducible refine gate_callee (f := 91) rfl ?_); refine gL 25 Try.func91 #[.int .i64 a1, .int .i64 a1, .bool false] ?_; (with_reducible refine (spec_l12Times.calls a1 a1 false t154 _ A8.out).mono ?_); rintro e w' ⟨rfl, ⟨nd, rfl⟩⟩; refine ⟨_, rfl, ?_⟩) | ((with_reducible refine gate_callee (f := 91) rfl ?_); refine gL 26 Try.func91 #[.int .i64 x9_1, .int .i64 t154, .bool false] ?_; (with_reducible refine (spec_l12Times.calls x9_1 t154 false t155 _ A9.out).mono ?_); rintro e w' ⟨rfl, ⟨nd, rfl⟩⟩; refine ⟨_, rfl, ?_⟩) | ((with_reducible refine gate_callee (f := 90) rfl ?_); refine gL 31 Try.func90 #[.int .i64 t155, .int .i64 (wrap64 (x2_1 * (wrap64 (x2_1 + 1)))), .bool false] ?_; (with_reducible refine (spec_l12Over.calls t155 (wrap64 (x2_1 * (wrap64 (x2_1 + 1)))) false t156 _ A10.out).mono ?_); rintro e w' ⟨rfl, ⟨nd, rfl⟩⟩; refine ⟨_, rfl, ?_⟩) | ((with_reducible refine gate_callee (f := 91) rfl ?_); refine gL 35 Try.func91 #[.int .i64 a1, .int .i64 a1, .bool true] ?_; (with_reducible refine (spec_l12Times.calls a1 a1 true t157 _ A11.out).mono ?_); rintro e w' ⟨rfl, ⟨nd, rfl⟩⟩; refine ⟨_, rfl, ?_⟩) | ((with_reducible refine gate_callee (f := 91) rfl ?_); refine gL 36 Try.func91 #[.int .i64 x10_1, .int .i64 t157, .bool true] ?_; (with_reducible refine (spec_l12Times.calls x10_1 t157 true t158 _ A12.out).mono ?_); rintro e w' ⟨rfl, ⟨nd, rfl⟩⟩; refine ⟨_, rfl, ?_⟩) | ((with_reducible refine gate_callee (f := 90) rfl ?_); refine gL 41 Try.func90 #[.int .i64 t158, .int .i64 (wrap64 (x2_1 * (wrap64 (x2_1 + 1)))), .bool true] ?_; (with_reducible refine (spec_l12Over.calls t158 (wrap64 (x2_1 * (wrap64 (x2_1 + 1)))) true t159 _ A13.out).mono ?_); rintro e w' ⟨rfl, ⟨nd, rfl⟩⟩; refine ⟨_, rfl, ?_⟩))
      (try simp only [Act.put, List.setIfInBounds_toArray, List.set_cons_zero, List.set_cons_succ])
      go_cut [47] (fun v47 wc => ∃ (kq : Nat) (x47_13 : Bool), v47 = .bool x47_13 ∧ Aside0 (spec_l12Row.j2 kq a1 x2_1 x7_1 x8_1 t156 t159 x11_1 x47_13 = some (r1, r2)) ∧ Aside0 (kq ≤ kj4) ∧ Aside0 (wc.heap[gb153]? = some (.cells #[.int .i64 x154000_1, .int .i64 x154001_1] 23 (0, 0))) ∧ Aside0 (Below w.heap.size w wc))
      case first =>
       have H := HC14.out
       clear HC14
       by_cases c15 : t159 = 1
       ·rw [if_pos c15] at H
        have c15b0 : (t159 == 1) = true := beq_iff_eq.mpr c15
        have c15b1 : (t159 != 1) = false := bne_eq_false_iff_eq.mpr c15
        clear c15
        (first | rw [c15b0] | (simp only [i64_w, i32_w]; rw [c15b0]) | skip)
        have H' := Aside0.mk H
        clear H
        go_wp2
        go_meet
        case rel => exact ⟨_, ((t156 == 0)), (by first | rfl | (simp; done) | (simp [*]; done)), H', ⟨by have := HK1.out; have := HJ4.out; first | omega | exact Nat.le_refl _⟩, ⟨bk BK153⟩, ⟨hs_ HB⟩⟩
       ·rw [if_neg c15] at H
        have c15b0 : (t159 == 1) = false := beq_eq_false_iff_ne.mpr c15
        have c15b1 : (t159 != 1) = true := bne_iff_ne.mpr c15
        (first | rw [c15b0] | (simp only [i64_w, i32_w]; rw [c15b0]) | skip)
        have H' := Aside0.mk H
        clear H
        go_wp2
        go_meet
        case rel => exact ⟨_, (false), (by first | rfl | (simp; done) | (simp [*]; done)), H', ⟨by have := HK1.out; have := HJ4.out; first | omega | exact Nat.le_refl _⟩, ⟨bk BK153⟩, ⟨hs_ HB⟩⟩
      case rest =>
       clear HC14
       try clear c1
       try clear p2
       try clear c6
       try clear c6b0
       try clear p6
       try clear c7
       try clear c8
       try clear c9
       try clear c15
       try clear c15b0
       try clear c15b1
       try clear p2
       obtain ⟨kq, x47_13, rfl, HA, HJ13, BK153, HB⟩ := hcut
       cases kq with
       | zero => exact absurd HA.out (by simp [spec_l12Row.j2])
       | succ kj13 =>
        have H := HA.out
        clear HA
        simp only [spec_l12Row.j2] at H
        by_cases c16 : x47_13 = true
        ·subst c16
         have H1 : (some (wrap64 (x7_1 - 1), wrap64 (x8_1 + 1))) = some (r1, r2) := by rw [if_pos rfl] at H; exact H
         clear H
         have H := H1
         clear H1
         simp only [Option.some.injEq, Prod.mk.injEq] at H
         obtain ⟨rfl, rfl⟩ := H
         obtain ⟨hcz17_0, hcz17_1, hfz17_0, hfz17_1⟩ := cz2 BK153
         go_wp2
         refine bodyPost_ret (results_cell_row rfl _ _ gb153 23 #[.int .i64 (wrap64 (x7_1 - 1)), .int .i64 (wrap64 (x8_1 + 1))] (0, 0) _ rfl (bkp BK153) Try.underlying23 rfl (by kernel_rfl)) rfl ?_
         exact ⟨by first | rfl | (simp [errW_none, errW_some] <;> rfl) | (simp [*, errW_none, errW_some] <;> rfl), hs_ HB⟩
        ·replace c16 := Bool.eq_false_iff.mpr c16
         subst c16
         have H1 : (if x11_1 = true then (spec_l12Row.l0 kj13 a1 (wrap64 (x2_1 + 2)) (wrap64 (x7_1 - t159)) (wrap64 (x8_1 - t156)) t156 t159 (!x11_1)) else (spec_l12Row.l0 kj13 a1 (wrap64 (x2_1 + 2)) (wrap64 (x7_1 + t156)) (wrap64 (x8_1 + t159)) t156 t159 (!x11_1))) = some (r1, r2) := by rw [if_neg (show ¬ (false = true) by decide)] at H; exact H
         clear H
         have H := H1
         clear H1
         by_cases c18 : x11_1 = true
         ·subst c18
          have H1 : (spec_l12Row.l0 kj13 a1 (wrap64 (x2_1 + 2)) (wrap64 (x7_1 - t159)) (wrap64 (x8_1 - t156)) t156 t159 (!true)) = some (r1, r2) := by rw [if_pos rfl] at H; exact H
          clear H
          have H := H1
          clear H1
          have H' := Aside0.mk H
          clear H
          go_wp2
          go_roundg kj13
          case measure => have := HK1.out; have := HJ4.out; have := HJ13.out; omega
          case rel => exact ⟨(wrap64 (x2_1 + 2)), (wrap64 (x7_1 - t159)), (wrap64 (x8_1 - t156)), (t156), (t159), (!true), (x154000_1), (x154001_1), (by first | rfl | (simp; done) | (simp [*]; done)), (by first | rfl | (simp; done) | (simp [*]; done)), (by first | rfl | (simp; done) | (simp [*]; done)), (by first | rfl | (simp; done) | (simp [*]; done)), (by first | rfl | (simp; done) | (simp [*]; done)), (by first | rfl | (simp; done) | (simp [*]; done)), H', ⟨by have := HK1.out; have := HJ4.out; have := HJ13.out; omega⟩, ⟨bk BK153⟩, ⟨hs_ HB⟩⟩
         ·replace c18 := Bool.eq_false_iff.mpr c18
          subst c18
          have H1 : (spec_l12Row.l0 kj13 a1 (wrap64 (x2_1 + 2)) (wrap64 (x7_1 + t156)) (wrap64 (x8_1 + t159)) t156 t159 (!false)) = some (r1, r2) := by rw [if_neg (show ¬ (false = true) by decide)] at H; exact H
          clear H
          have H := H1
          clear H1
          have H' := Aside0.mk H
          clear H
          go_wp2
          go_roundg kj13
          case measure => have := HK1.out; have := HJ4.out; have := HJ13.out; omega
          case rel => exact ⟨(wrap64 (x2_1 + 2)), (wrap64 (x7_1 + t156)), (wrap64 (x8_1 + t159)), (t156), (t159), (!false), (x154000_1), (x154001_1), (by first | rfl | (simp; done) | (simp [*]; done)), (by first | rfl | (simp; done) | (simp [*]; done)), (by first | rfl | (simp; done) | (simp [*]; done)), (by first | rfl | (simp; done) | (simp [*]; done)), (by first | rfl | (simp; done) | (simp [*]; done)), (by first | rfl | (simp; done) | (simp [*]; done)), H', ⟨by have := HK1.out; have := HJ4.out; have := HJ13.out; omega⟩, ⟨bk BK153⟩, ⟨hs_ HB⟩⟩
     ·replace c7 := Bool.eq_false_iff.mpr c7
      subst c7
      have H1 : (some (x7_1, x8_1)) = some (r1, r2) := by rw [if_neg (show ¬ (false = true) by decide)] at H; exact H
      clear H
      have H := H1
      clear H1
      simp only [Option.some.injEq, Prod.mk.injEq] at H
      obtain ⟨rfl, rfl⟩ := H
      obtain ⟨hcz19_0, hcz19_1, hfz19_0, hfz19_1⟩ := cz2 BK153
      go_wp2
      refine bodyPost_ret (results_cell_row rfl _ _ gb153 23 #[.int .i64 x7_1, .int .i64 x8_1] (0, 0) _ rfl (bkp BK153) Try.underlying23 rfl (by kernel_rfl)) rfl ?_
      exact ⟨by first | rfl | (simp [errW_none, errW_some] <;> rfl) | (simp [*, errW_none, errW_some] <;> rfl), hs_ HB⟩


/-! ### spec_l12Near: function 86 -/
def spec_l12Near.f (k : Nat) (a0 : Int) : Option (Int × Int) := (spec_l12Arc.f a0).bind fun bt169 => ((spec_l12Row.f k 1000000000 bt169.2 1).bind fun bt172 => ((spec_l12Row.f k 1000000000 bt169.1 1).bind fun bt174 => (some (bt172.1, mn bt174.2 1000000000))))
theorem spec_l12Near.mono : ∀ a0 k, LeO (spec_l12Near.f k a0) (spec_l12Near.f (k + 1) a0) := by
 intro a0 k
 unfold spec_l12Near.f
 repeat' first
   | (with_reducible exact spec_l12Row.mono _ _ _ _)
   | (with_reducible exact LeO.refl _)
   | (with_reducible exact LeO.none _)
   | (with_reducible refine LeO.ite ?_ ?_)
   | (with_reducible refine LeO.bind ?_ (fun _ => ?_))
   | exact spec_l12Row.mono _ _ _ _
   | exact LeO.none _
   | refine LeO.ite ?_ ?_
   | refine LeO.bind ?_ (fun _ => ?_)
def spec_l12Near.T2 : Bool × List (List Nat × List Nat) := (true, [([], []), ([0], [0]), ([1], [1]), ([2], [2]), ([], []), ([4], [4]), ([5, 2], [5]), ([6], [6]), ([7], [7]), ([3, 8], [3, 8]), ([9, 6, 0, 1, 2, 3, 4, 5, 6, 7, 8, 9], [9])])
def spec_l12Near.B2 : List Nat := [0, 1, 3, 7, 0, 16, 55, 119, 247, 511, 1023]
theorem spec_l12Near.tab2 : rtab .any (opsOf Try.f86 2) = spec_l12Near.T2 := by kernel_rfl
theorem spec_l12Near.bits2 : waitsOk spec_l12Near.T2.2 spec_l12Near.B2 = true := by kernel_rfl
set_option maxHeartbeats 8000000 in
set_option maxRecDepth 100000 in
theorem spec_l12Near.calls (k : Nat) (a0 : Int) (r1 : Int) (r2 : Int) (w : World) (h : spec_l12Near.f k a0 = some (r1, r2)) :
  Calls Try.prog 86 #[.int .i64 a0] w fun e w' => e = .returned (.agg #[.int .i64 r1, .int .i64 r2]) ∧ Below w.heap.size w w' := by
 have hu23 := Try.underlying23
 have HB := Aside0.mk (Below.refl w.heap.size w)
 have H : ((spec_l12Arc.f a0).bind fun bt169 => ((spec_l12Row.f k 1000000000 bt169.2 1).bind fun bt172 => ((spec_l12Row.f k 1000000000 bt169.1 1).bind fun bt174 => (some (bt172.1, mn bt174.2 1000000000))))) = some (r1, r2) := h
 clear h
 replace H := Option.bind_eq_some_iff.mp H
 obtain ⟨⟨t169, t170⟩, A20, H⟩ := H
 replace H : ((spec_l12Row.f k 1000000000 t170 1).bind fun bt172 => ((spec_l12Row.f k 1000000000 t169 1).bind fun bt174 => (some (bt172.1, mn bt174.2 1000000000)))) = some (r1, r2) := H
 have A2 := Aside0.mk A20
 clear A20
 replace H := Option.bind_eq_some_iff.mp H
 obtain ⟨⟨t172, t173⟩, A30, H⟩ := H
 replace H : ((spec_l12Row.f k 1000000000 t169 1).bind fun bt174 => (some (t172, mn bt174.2 1000000000))) = some (r1, r2) := H
 have A3 := Aside0.mk A30
 clear A30
 replace H := Option.bind_eq_some_iff.mp H
 obtain ⟨⟨t174, t175⟩, A40, H⟩ := H
 replace H : (some (t172, mn t175 1000000000)) = some (r1, r2) := H
 have A4 := Aside0.mk A40
 clear A40
 obtain ⟨ji5, hji5⟩ : ∃ j_ : Int, (mn t175 1000000000) = j_ := ⟨_, rfl⟩
 replace H : (some (t172, ji5)) = some (r1, r2) := by first | (rw [hji5] at H; exact H) | (simp only [hji5] at H ⊢; exact H)
 (try rw [hji5] at A2)
 (try rw [hji5] at A3)
 (try rw [hji5] at A4)
 (try (have hji5h : ji5 ≤ 1000000000 := by (rw [← hji5]; unfold mn; (repeat' split) <;> omega)))
 (try (have hji5g : ji5 ≤ 64 := by omega))
 have hji5_ : (if 1000000000 < t175 then 1000000000 else t175) = ji5 := hji5
 simp only [Option.some.injEq, Prod.mk.injEq] at H
 obtain ⟨rfl, rfl⟩ := H
 go_enter Try.func86, Try.ntmps86
 try go_wp2_with (first | ((with_reducible refine gate_dst (N := 2) rfl ?_); refine bE 2 #[.int .i64 0, .int .i64 0] 23 ?_; intro gb168 hg w6 hbox hb; have BK168 := Aside0.mk (hbox); have GE168 := gw hg (h0_ HB); have GW168 := GE168; replace HB := hbb (h0_ HB) hb; clear hb hbox hg) | ((with_reducible refine gate_callee (f := 88) rfl ?_); refine gL 5 Try.func88 #[.int .i64 a0] ?_; (with_reducible refine (spec_l12Arc.calls a0 t169 t170 _ A2.out).mono ?_); rintro e w7 ⟨rfl, hb⟩; refine ⟨_, rfl, ?_⟩; replace BK168 := bb (bk BK168) hb; replace HB := hbb (hs_ HB) hb; clear hb) | ((with_reducible refine gate_dst (N := 3) rfl ?_); refine bE 3 #[.int .i64 0, .int .i64 0] 23 ?_; intro gb171 hg w8 hbox hb; have BK171 := Aside0.mk (hbox); have GE171 := gw hg (hs_ HB); have GW171 := GE171; have NB168_171 := nl hg (bk BK168); have NB171_168 := ng hg (bk BK168); replace BK168 := bb (bk BK168) hb; replace HB := hbb (hs_ HB) hb; clear hb hbox hg; have hnb9 := NB171_168.out; have hnc9 := NB168_171.out; obtain ⟨hcz10_0, hcz10_1, hfz10_0, hfz10_1⟩ := cz2 BK171))
 have n0_ : Aside0 (((w8.setCell ⟨gb171, 0, none⟩ (.int .i64 t169)).setCell ⟨gb171, 1, none⟩ (.int .i64 t170)).heap[gb168]? = some (.cells #[.int .i64 0, .int .i64 0] 23 (0, 0))) := ⟨bk1 BK168 NB168_171⟩
 have n1_ : Aside0 (((w8.setCell ⟨gb171, 0, none⟩ (.int .i64 t169)).setCell ⟨gb171, 1, none⟩ (.int .i64 t170)).heap[gb171]? = some (.cells #[.int .i64 t169, .int .i64 t170] 23 (0, 0))) := ⟨bkp BK171⟩
 have n2_ : Aside0 (Below w.heap.size w ((w8.setCell ⟨gb171, 0, none⟩ (.int .i64 t169)).setCell ⟨gb171, 1, none⟩ (.int .i64 t170))) := ⟨hs_ HB⟩
 (try clear BK168)
 (try clear BK171)
 (try clear HB)
 generalize ((w8.setCell ⟨gb171, 0, none⟩ (.int .i64 t169)).setCell ⟨gb171, 1, none⟩ (.int .i64 t170)) = w11 at n0_ n1_ n2_ ⊢
 have BK168 := n0_
 have BK171 := n1_
 have HB := n2_
 clear n0_ n1_ n2_
 replace BK168 := Aside0.mk (blk_drew BK168.out)
 replace BK171 := Aside0.mk (blk_drew BK171.out)
 replace HB := Aside0.mk (below_drew1 HB.out)
 refine start_ (n := 11) (S := fun w' => w'.cell? ⟨gb171, 0, none⟩ = some (.int .i64 t169) ∧ w'.cell? ⟨gb171, 1, none⟩ = some (.int .i64 t170)) (ds := []) #[false, false, false, false, false, false, false, false, false, false, false] (by kernel_rfl) rfl rfl ⟨(blk_cell BK171.out 0).trans rfl, (blk_cell BK171.out 1).trans rfl⟩ (fun hHeld => ?_); refine with_tabW spec_l12Near.tab2 spec_l12Near.bits2 (fun HT_ HW_ => ?_)
 generalize w11.drew = w12 at BK168 BK171 HB hHeld ⊢
 refine pure_ (i := 0) (N := some 6) (v := ?_) (a' := ?_) #[true, false, false, false, false, false, false, false, false, false, false] rfl rfl (any_of HT_.out (by kernel_rfl)) (fun _ _ _ h => h) (Or.inl ⟨by rfl, ?_⟩) ?_ ?_
 rotate_left
 ·intro w'
  go_simp
  with_reducible rfl
 rotate_left
 ·simp only [Act.put, List.setIfInBounds_toArray, List.set_cons_zero, List.set_cons_succ, i64_w, i32_w]
  rfl
 refine pure_ (i := 4) (N := some 10) (v := ?_) (a' := ?_) #[true, false, false, false, true, false, false, false, false, false, false] rfl rfl (any_of HT_.out (by kernel_rfl)) (fun _ _ _ h => h) (Or.inl ⟨by rfl, ?_⟩) ?_ ?_
 rotate_left
 ·intro w'
  go_simp
  with_reducible rfl
 rotate_left
 ·simp only [Act.put, List.setIfInBounds_toArray, List.set_cons_zero, List.set_cons_succ, i64_w, i32_w]
  rfl
 refine take_ (i := 1) (N := some 7) (v := ?_) (a' := ?_) #[true, true, false, false, true, false, false, false, false, false, false] rfl rfl (take_ofW HT_.out HW_.out (by kernel_rfl)) (fun _ _ _ h => h) (Or.inl ⟨by rfl, ?_⟩) hHeld ?_ ?_
 rotate_left
 ·rintro w' ⟨s0, s1⟩
  go_simp
  with_reducible rfl
 rotate_left
 ·simp only [Act.put, List.setIfInBounds_toArray, List.set_cons_zero, List.set_cons_succ, i64_w, i32_w]
  rfl
 refine take_ (i := 5) (N := some 11) (v := ?_) (a' := ?_) #[true, true, false, false, true, true, false, false, false, false, false] rfl rfl (take_ofW HT_.out HW_.out (by kernel_rfl)) (fun _ _ _ h => h) (Or.inl ⟨by rfl, ?_⟩) hHeld ?_ ?_
 rotate_left
 ·rintro w' ⟨s0, s1⟩
  go_simp
  with_reducible rfl
 rotate_left
 ·simp only [Act.put, List.setIfInBounds_toArray, List.set_cons_zero, List.set_cons_succ, i64_w, i32_w]
  rfl
 refine one_ (i := 2) (N := some 8) #[true, true, true, false, true, true, false, false, false, false, false] rfl rfl (one_of HT_.out (by kernel_rfl)) (by decide) (fun K hK => ?_)
 refine gS Try.func89 #[.int .i64 1000000000, .int .i64 t170, .int .i64 1] ?_
 with_reducible refine (spec_l12Row.calls k 1000000000 t170 1 t172 t173 _ A3.out).mono ?_
 rintro e w13 ⟨rfl, hb⟩
 refine ⟨_, rfl, ?_⟩
 replace BK168 := bb (bk BK168) hb
 replace BK171 := bb (bk BK171) hb
 replace HB := hbb (hs_ HB) hb
 clear hb
 refine hK.out _ _ ⟨(blk_cell BK171.out 0).trans rfl, (blk_cell BK171.out 1).trans rfl⟩ (fun hHeld => ?_)
 clear hK K
 refine norm_ (a' := ?_) ?_ ?_
 rotate_left
 ·show Act.put _ (some 8) _ = _
  simp only [Act.put, List.setIfInBounds_toArray, List.set_cons_zero, List.set_cons_succ, i64_w, i32_w]
  rfl
 refine pure_ (i := 3) (N := some 9) (v := ?_) (a' := ?_) #[true, true, true, true, true, true, false, false, false, false, false] rfl rfl (any_of HT_.out (by kernel_rfl)) (fun _ _ _ h => h) (Or.inl ⟨by rfl, ?_⟩) ?_ ?_
 rotate_left
 ·intro w'
  go_simp
  with_reducible rfl
 rotate_left
 ·simp only [Act.put, List.setIfInBounds_toArray, List.set_cons_zero, List.set_cons_succ, i64_w, i32_w]
  rfl
 refine one_ (i := 6) (N := some 12) #[true, true, true, true, true, true, true, false, false, false, false] rfl rfl (one_of HT_.out (by kernel_rfl)) (by decide) (fun K hK => ?_)
 refine gS Try.func89 #[.int .i64 1000000000, .int .i64 t169, .int .i64 1] ?_
 with_reducible refine (spec_l12Row.calls k 1000000000 t169 1 t174 t175 _ A4.out).mono ?_
 rintro e w14 ⟨rfl, hb⟩
 refine ⟨_, rfl, ?_⟩
 replace BK168 := bb (bk BK168) hb
 replace BK171 := bb (bk BK171) hb
 replace HB := hbb (hs_ HB) hb
 clear hb
 refine hK.out _ _ ⟨(blk_cell BK171.out 0).trans rfl, (blk_cell BK171.out 1).trans rfl⟩ (fun hHeld => ?_)
 clear hK K
 refine norm_ (a' := ?_) ?_ ?_
 rotate_left
 ·show Act.put _ (some 12) _ = _
  simp only [Act.put, List.setIfInBounds_toArray, List.set_cons_zero, List.set_cons_succ, i64_w, i32_w]
  rfl
 refine pure_ (i := 7) (N := some 13) (v := ?_) (a' := ?_) #[true, true, true, true, true, true, true, true, false, false, false] rfl rfl (any_of HT_.out (by kernel_rfl)) (fun _ _ _ h => h) (Or.inl ⟨by rfl, ?_⟩) ?_ ?_
 rotate_left
 ·intro w'
  go_simp
  with_reducible rfl
 rotate_left
 ·simp only [Act.put, List.setIfInBounds_toArray, List.set_cons_zero, List.set_cons_succ, i64_w, i32_w]
  rfl
 refine pure_ (i := 8) (N := some 14) (v := ?_) (a' := ?_) #[true, true, true, true, true, true, true, true, true, false, false] rfl rfl (any_of HT_.out (by kernel_rfl)) (fun _ _ _ h => h) (Or.inl ⟨by rfl, ?_⟩) ?_ ?_
 rotate_left
 ·intro w'
  go_simp
  with_reducible rfl
 rotate_left
 ·simp only [Act.put, List.setIfInBounds_toArray, List.set_cons_zero, List.set_cons_succ, i64_w, i32_w]
  rfl
 refine pure_ (i := 9) (N := some 15) (v := ?_) (a' := ?_) #[true, true, true, true, true, true, true, true, true, true, false] rfl rfl (any_of HT_.out (by kernel_rfl)) (fun _ _ _ h => h) (Or.inl ⟨by rfl, ?_⟩) ?_ ?_
 rotate_left
 ·intro w'
  go_simp
  with_reducible rfl
 rotate_left
 ·simp only [Act.put, List.setIfInBounds_toArray, List.set_cons_zero, List.set_cons_succ, i64_w, i32_w]
  rfl
 refine one_ (i := 10) (N := none) #[true, true, true, true, true, true, true, true, true, true, true] rfl rfl (one_of HT_.out (by kernel_rfl)) (by decide) (fun K hK => ?_)
 have hs15 : w14.cell? ⟨gb168, 0, none⟩ = some (.int .i64 0) := (blk_cell BK168.out 0).trans rfl
 have hfs15 := blk_frozen BK168.out 0
 have hns15_1 := NB171_168.out
 have hms15_1 := NB168_171.out
 have hs16 : w14.cell? ⟨gb168, 1, none⟩ = some (.int .i64 0) := (blk_cell BK168.out 1).trans rfl
 have hfs16 := blk_frozen BK168.out 1
 have hns16_1 := NB171_168.out
 have hms16_1 := NB168_171.out
 refine skip_ (w1 := ?_) (by rfl) rfl ?_ ?_
 rotate_left
 ·go_simp
  rfl
 refine hK.out _ _ ⟨((cell_far (p := ⟨gb168, _, none⟩) NB171_168.out _).trans (((cell_far (p := ⟨gb168, _, none⟩) NB171_168.out _).trans (hHeld.1)))), ((cell_far (p := ⟨gb168, _, none⟩) NB171_168.out _).trans (((cell_far (p := ⟨gb168, _, none⟩) NB171_168.out _).trans (hHeld.2))))⟩ (fun hHeld => ?_)
 clear hK K
 refine done_ (done_of HT_.out (by kernel_rfl)) ?_
 try go_wp2
 refine bodyPost_ret (results_cell_row rfl _ _ gb168 23 #[.int .i64 t172, .int .i64 ji5] (0, 0) _ rfl (bkp BK168) Try.underlying23 rfl (by kernel_rfl)) rfl ?_
 exact ⟨by first | rfl | (simp [errW_none, errW_some] <;> rfl) | (simp only [← hji5]; first | rfl | (simp [errW_none, errW_some] <;> rfl)) | (simp [*, errW_none, errW_some] <;> rfl), hs_ HB⟩


/-! ### spec_l12Small: function 85 -/
def spec_l12Small.f (k : Nat) (a0 : Int) : Option (Int × Int) := (spec_l12Arc.f a0).bind fun bt161 => ((spec_l12Row.f k bt161.1 bt161.1 2).bind fun bt164 => ((spec_l12Row.f k bt161.2 bt161.2 2).bind fun bt166 => (some (mx bt164.1 0, bt166.2))))
theorem spec_l12Small.mono : ∀ a0 k, LeO (spec_l12Small.f k a0) (spec_l12Small.f (k + 1) a0) := by
 intro a0 k
 unfold spec_l12Small.f
 repeat' first
   | (with_reducible exact spec_l12Row.mono _ _ _ _)
   | (with_reducible exact LeO.refl _)
   | (with_reducible exact LeO.none _)
   | (with_reducible refine LeO.ite ?_ ?_)
   | (with_reducible refine LeO.bind ?_ (fun _ => ?_))
   | exact spec_l12Row.mono _ _ _ _
   | exact LeO.none _
   | refine LeO.ite ?_ ?_
   | refine LeO.bind ?_ (fun _ => ?_)
def spec_l12Small.T2 : Bool × List (List Nat × List Nat) := (true, [([], []), ([0], [0]), ([], []), ([2], [2]), ([1, 3], [1, 3]), ([4], [4]), ([5], [5]), ([], []), ([7], [7]), ([], []), ([9], [9]), ([8, 10, 4], [8, 10]), ([11], [11]), ([6, 12], [6, 12]), ([13, 11, 0, 1, 2, 3, 4, 5, 6, 7, 8, 9, 10, 11, 12, 13], [13])])
def spec_l12Small.B2 : List Nat := [0, 1, 0, 4, 15, 31, 63, 0, 128, 0, 512, 1951, 3999, 8191, 16383]
theorem spec_l12Small.tab2 : rtab .any (opsOf Try.f85 2) = spec_l12Small.T2 := by kernel_rfl
theorem spec_l12Small.bits2 : waitsOk spec_l12Small.T2.2 spec_l12Small.B2 = true := by kernel_rfl
set_option maxHeartbeats 8000000 in
set_option maxRecDepth 100000 in
theorem spec_l12Small.calls (k : Nat) (a0 : Int) (r1 : Int) (r2 : Int) (w : World) (h : spec_l12Small.f k a0 = some (r1, r2)) :
  Calls Try.prog 85 #[.int .i64 a0] w fun e w' => e = .returned (.agg #[.int .i64 r1, .int .i64 r2]) ∧ Below w.heap.size w w' := by
 have hu23 := Try.underlying23
 have HB := Aside0.mk (Below.refl w.heap.size w)
 have H : ((spec_l12Arc.f a0).bind fun bt161 => ((spec_l12Row.f k bt161.1 bt161.1 2).bind fun bt164 => ((spec_l12Row.f k bt161.2 bt161.2 2).bind fun bt166 => (some (mx bt164.1 0, bt166.2))))) = some (r1, r2) := h
 clear h
 replace H := Option.bind_eq_some_iff.mp H
 obtain ⟨⟨t161, t162⟩, A20, H⟩ := H
 replace H : ((spec_l12Row.f k t161 t161 2).bind fun bt164 => ((spec_l12Row.f k t162 t162 2).bind fun bt166 => (some (mx bt164.1 0, bt166.2)))) = some (r1, r2) := H
 have A2 := Aside0.mk A20
 clear A20
 replace H := Option.bind_eq_some_iff.mp H
 obtain ⟨⟨t164, t165⟩, A30, H⟩ := H
 replace H : ((spec_l12Row.f k t162 t162 2).bind fun bt166 => (some (mx t164 0, bt166.2))) = some (r1, r2) := H
 have A3 := Aside0.mk A30
 clear A30
 obtain ⟨ji4, hji4⟩ : ∃ j_ : Int, (mx t164 0) = j_ := ⟨_, rfl⟩
 replace H : ((spec_l12Row.f k t162 t162 2).bind fun bt166 => (some (ji4, bt166.2))) = some (r1, r2) := by first | (rw [hji4] at H; exact H) | (simp only [hji4] at H ⊢; exact H)
 (try rw [hji4] at A2)
 (try rw [hji4] at A3)
 (try (have hji4l : 0 ≤ ji4 := by (rw [← hji4]; unfold mx; (repeat' split) <;> omega)))
 (try (have hji4m : 0 ≤ ji4 := by omega))
 have hji4_ : (if t164 < 0 then 0 else t164) = ji4 := hji4
 replace H := Option.bind_eq_some_iff.mp H
 obtain ⟨⟨t166, t167⟩, A50, H⟩ := H
 replace H : (some (ji4, t167)) = some (r1, r2) := H
 have A5 := Aside0.mk A50
 clear A50
 simp only [Option.some.injEq, Prod.mk.injEq] at H
 obtain ⟨rfl, rfl⟩ := H
 go_enter Try.func85, Try.ntmps85
 try go_wp2_with (first | ((with_reducible refine gate_dst (N := 2) rfl ?_); refine bE 2 #[.int .i64 0, .int .i64 0] 23 ?_; intro gb160 hg w6 hbox hb; have BK160 := Aside0.mk (hbox); have GE160 := gw hg (h0_ HB); have GW160 := GE160; replace HB := hbb (h0_ HB) hb; clear hb hbox hg) | ((with_reducible refine gate_callee (f := 88) rfl ?_); refine gL 5 Try.func88 #[.int .i64 a0] ?_; (with_reducible refine (spec_l12Arc.calls a0 t161 t162 _ A2.out).mono ?_); rintro e w7 ⟨rfl, hb⟩; refine ⟨_, rfl, ?_⟩; replace BK160 := bb (bk BK160) hb; replace HB := hbb (hs_ HB) hb; clear hb) | ((with_reducible refine gate_dst (N := 3) rfl ?_); refine bE 3 #[.int .i64 0, .int .i64 0] 23 ?_; intro gb163 hg w8 hbox hb; have BK163 := Aside0.mk (hbox); have GE163 := gw hg (hs_ HB); have GW163 := GE163; have NB160_163 := nl hg (bk BK160); have NB163_160 := ng hg (bk BK160); replace BK160 := bb (bk BK160) hb; replace HB := hbb (hs_ HB) hb; clear hb hbox hg; have hnb9 := NB163_160.out; have hnc9 := NB160_163.out; obtain ⟨hcz10_0, hcz10_1, hfz10_0, hfz10_1⟩ := cz2 BK163))
 have n0_ : Aside0 (((w8.setCell ⟨gb163, 0, none⟩ (.int .i64 t161)).setCell ⟨gb163, 1, none⟩ (.int .i64 t162)).heap[gb160]? = some (.cells #[.int .i64 0, .int .i64 0] 23 (0, 0))) := ⟨bk1 BK160 NB160_163⟩
 have n1_ : Aside0 (((w8.setCell ⟨gb163, 0, none⟩ (.int .i64 t161)).setCell ⟨gb163, 1, none⟩ (.int .i64 t162)).heap[gb163]? = some (.cells #[.int .i64 t161, .int .i64 t162] 23 (0, 0))) := ⟨bkp BK163⟩
 have n2_ : Aside0 (Below w.heap.size w ((w8.setCell ⟨gb163, 0, none⟩ (.int .i64 t161)).setCell ⟨gb163, 1, none⟩ (.int .i64 t162))) := ⟨hs_ HB⟩
 (try clear BK160)
 (try clear BK163)
 (try clear HB)
 generalize ((w8.setCell ⟨gb163, 0, none⟩ (.int .i64 t161)).setCell ⟨gb163, 1, none⟩ (.int .i64 t162)) = w11 at n0_ n1_ n2_ ⊢
 have BK160 := n0_
 have BK163 := n1_
 have HB := n2_
 clear n0_ n1_ n2_
 replace BK160 := Aside0.mk (blk_drew BK160.out)
 replace BK163 := Aside0.mk (blk_drew BK163.out)
 replace HB := Aside0.mk (below_drew1 HB.out)
 refine start_ (n := 15) (S := fun w' => w'.cell? ⟨gb163, 0, none⟩ = some (.int .i64 t161) ∧ w'.cell? ⟨gb163, 1, none⟩ = some (.int .i64 t162)) (ds := []) #[false, false, false, false, false, false, false, false, false, false, false, false, false, false, false] (by kernel_rfl) rfl rfl ⟨(blk_cell BK163.out 0).trans rfl, (blk_cell BK163.out 1).trans rfl⟩ (fun hHeld => ?_); refine with_tabW spec_l12Small.tab2 spec_l12Small.bits2 (fun HT_ HW_ => ?_)
 generalize w11.drew = w12 at BK160 BK163 HB hHeld ⊢
 refine pure_ (i := 0) (N := some 6) (v := ?_) (a' := ?_) #[true, false, false, false, false, false, false, false, false, false, false, false, false, false, false] rfl rfl (any_of HT_.out (by kernel_rfl)) (fun _ _ _ h => h) (Or.inl ⟨by rfl, ?_⟩) ?_ ?_
 rotate_left
 ·intro w'
  go_simp
  with_reducible rfl
 rotate_left
 ·simp only [Act.put, List.setIfInBounds_toArray, List.set_cons_zero, List.set_cons_succ, i64_w, i32_w]
  rfl
 refine pure_ (i := 2) (N := some 8) (v := ?_) (a' := ?_) #[true, false, true, false, false, false, false, false, false, false, false, false, false, false, false] rfl rfl (any_of HT_.out (by kernel_rfl)) (fun _ _ _ h => h) (Or.inl ⟨by rfl, ?_⟩) ?_ ?_
 rotate_left
 ·intro w'
  go_simp
  with_reducible rfl
 rotate_left
 ·simp only [Act.put, List.setIfInBounds_toArray, List.set_cons_zero, List.set_cons_succ, i64_w, i32_w]
  rfl
 refine pure_ (i := 7) (N := some 13) (v := ?_) (a' := ?_) #[true, false, true, false, false, false, false, true, false, false, false, false, false, false, false] rfl rfl (any_of HT_.out (by kernel_rfl)) (fun _ _ _ h => h) (Or.inl ⟨by rfl, ?_⟩) ?_ ?_
 rotate_left
 ·intro w'
  go_simp
  with_reducible rfl
 rotate_left
 ·simp only [Act.put, List.setIfInBounds_toArray, List.set_cons_zero, List.set_cons_succ, i64_w, i32_w]
  rfl
 refine pure_ (i := 9) (N := some 15) (v := ?_) (a' := ?_) #[true, false, true, false, false, false, false, true, false, true, false, false, false, false, false] rfl rfl (any_of HT_.out (by kernel_rfl)) (fun _ _ _ h => h) (Or.inl ⟨by rfl, ?_⟩) ?_ ?_
 rotate_left
 ·intro w'
  go_simp
  with_reducible rfl
 rotate_left
 ·simp only [Act.put, List.setIfInBounds_toArray, List.set_cons_zero, List.set_cons_succ, i64_w, i32_w]
  rfl
 refine take_ (i := 1) (N := some 7) (v := ?_) (a' := ?_) #[true, true, true, false, false, false, false, true, false, true, false, false, false, false, false] rfl rfl (take_ofW HT_.out HW_.out (by kernel_rfl)) (fun _ _ _ h => h) (Or.inl ⟨by rfl, ?_⟩) hHeld ?_ ?_
 rotate_left
 ·rintro w' ⟨s0, s1⟩
  go_simp
  with_reducible rfl
 rotate_left
 ·simp only [Act.put, List.setIfInBounds_toArray, List.set_cons_zero, List.set_cons_succ, i64_w, i32_w]
  rfl
 refine take_ (i := 3) (N := some 9) (v := ?_) (a' := ?_) #[true, true, true, true, false, false, false, true, false, true, false, false, false, false, false] rfl rfl (take_ofW HT_.out HW_.out (by kernel_rfl)) (fun _ _ _ h => h) (Or.inl ⟨by rfl, ?_⟩) hHeld ?_ ?_
 rotate_left
 ·rintro w' ⟨s0, s1⟩
  go_simp
  with_reducible rfl
 rotate_left
 ·simp only [Act.put, List.setIfInBounds_toArray, List.set_cons_zero, List.set_cons_succ, i64_w, i32_w]
  rfl
 refine take_ (i := 8) (N := some 14) (v := ?_) (a' := ?_) #[true, true, true, true, false, false, false, true, true, true, false, false, false, false, false] rfl rfl (take_ofW HT_.out HW_.out (by kernel_rfl)) (fun _ _ _ h => h) (Or.inl ⟨by rfl, ?_⟩) hHeld ?_ ?_
 rotate_left
 ·rintro w' ⟨s0, s1⟩
  go_simp
  with_reducible rfl
 rotate_left
 ·simp only [Act.put, List.setIfInBounds_toArray, List.set_cons_zero, List.set_cons_succ, i64_w, i32_w]
  rfl
 refine take_ (i := 10) (N := some 16) (v := ?_) (a' := ?_) #[true, true, true, true, false, false, false, true, true, true, true, false, false, false, false] rfl rfl (take_ofW HT_.out HW_.out (by kernel_rfl)) (fun _ _ _ h => h) (Or.inl ⟨by rfl, ?_⟩) hHeld ?_ ?_
 rotate_left
 ·rintro w' ⟨s0, s1⟩
  go_simp
  with_reducible rfl
 rotate_left
 ·simp only [Act.put, List.setIfInBounds_toArray, List.set_cons_zero, List.set_cons_succ, i64_w, i32_w]
  rfl
 refine one_ (i := 4) (N := some 10) #[true, true, true, true, true, false, false, true, true, true, true, false, false, false, false] rfl rfl (one_of HT_.out (by kernel_rfl)) (by decide) (fun K hK => ?_)
 refine gS Try.func89 #[.int .i64 t161, .int .i64 t161, .int .i64 2] ?_
 with_reducible refine (spec_l12Row.calls k t161 t161 2 t164 t165 _ A3.out).mono ?_
 rintro e w13 ⟨rfl, hb⟩
 refine ⟨_, rfl, ?_⟩
 replace BK160 := bb (bk BK160) hb
 replace BK163 := bb (bk BK163) hb
 replace HB := hbb (hs_ HB) hb
 clear hb
 refine hK.out _ _ ⟨(blk_cell BK163.out 0).trans rfl, (blk_cell BK163.out 1).trans rfl⟩ (fun hHeld => ?_)
 clear hK K
 refine norm_ (a' := ?_) ?_ ?_
 rotate_left
 ·show Act.put _ (some 10) _ = _
  simp only [Act.put, List.setIfInBounds_toArray, List.set_cons_zero, List.set_cons_succ, i64_w, i32_w]
  rfl
 refine pure_ (i := 5) (N := some 11) (v := ?_) (a' := ?_) #[true, true, true, true, true, true, false, true, true, true, true, false, false, false, false] rfl rfl (any_of HT_.out (by kernel_rfl)) (fun _ _ _ h => h) (Or.inl ⟨by rfl, ?_⟩) ?_ ?_
 rotate_left
 ·intro w'
  go_simp
  with_reducible rfl
 rotate_left
 ·simp only [Act.put, List.setIfInBounds_toArray, List.set_cons_zero, List.set_cons_succ, i64_w, i32_w]
  rfl
 refine pure_ (i := 6) (N := some 12) (v := ?_) (a' := ?_) #[true, true, true, true, true, true, true, true, true, true, true, false, false, false, false] rfl rfl (any_of HT_.out (by kernel_rfl)) (fun _ _ _ h => h) (Or.inl ⟨by rfl, ?_⟩) ?_ ?_
 rotate_left
 ·intro w'
  go_simp
  with_reducible rfl
 rotate_left
 ·simp only [Act.put, List.setIfInBounds_toArray, List.set_cons_zero, List.set_cons_succ, i64_w, i32_w]
  rfl
 refine one_ (i := 11) (N := some 17) #[true, true, true, true, true, true, true, true, true, true, true, true, false, false, false] rfl rfl (one_of HT_.out (by kernel_rfl)) (by decide) (fun K hK => ?_)
 refine gS Try.func89 #[.int .i64 t162, .int .i64 t162, .int .i64 2] ?_
 with_reducible refine (spec_l12Row.calls k t162 t162 2 t166 t167 _ A5.out).mono ?_
 rintro e w14 ⟨rfl, hb⟩
 refine ⟨_, rfl, ?_⟩
 replace BK160 := bb (bk BK160) hb
 replace BK163 := bb (bk BK163) hb
 replace HB := hbb (hs_ HB) hb
 clear hb
 refine hK.out _ _ ⟨(blk_cell BK163.out 0).trans rfl, (blk_cell BK163.out 1).trans rfl⟩ (fun hHeld => ?_)
 clear hK K
 refine norm_ (a' := ?_) ?_ ?_
 rotate_left
 ·show Act.put _ (some 17) _ = _
  simp only [Act.put, List.setIfInBounds_toArray, List.set_cons_zero, List.set_cons_succ, i64_w, i32_w]
  rfl
 refine pure_ (i := 12) (N := some 18) (v := ?_) (a' := ?_) #[true, true, true, true, true, true, true, true, true, true, true, true, true, false, false] rfl rfl (any_of HT_.out (by kernel_rfl)) (fun _ _ _ h => h) (Or.inl ⟨by rfl, ?_⟩) ?_ ?_
 rotate_left
 ·intro w'
  go_simp
  with_reducible rfl
 rotate_left
 ·simp only [Act.put, List.setIfInBounds_toArray, List.set_cons_zero, List.set_cons_succ, i64_w, i32_w]
  rfl
 refine pure_ (i := 13) (N := some 19) (v := ?_) (a' := ?_) #[true, true, true, true, true, true, true, true, true, true, true, true, true, true, false] rfl rfl (any_of HT_.out (by kernel_rfl)) (fun _ _ _ h => h) (Or.inl ⟨by rfl, ?_⟩) ?_ ?_
 rotate_left
 ·intro w'
  go_simp
  with_reducible rfl
 rotate_left
 ·simp only [Act.put, List.setIfInBounds_toArray, List.set_cons_zero, List.set_cons_succ, i64_w, i32_w]
  rfl
 refine one_ (i := 14) (N := none) #[true, true, true, true, true, true, true, true, true, true, true, true, true, true, true] rfl rfl (one_of HT_.out (by kernel_rfl)) (by decide) (fun K hK => ?_)
 have hs15 : w14.cell? ⟨gb160, 0, none⟩ = some (.int .i64 0) := (blk_cell BK160.out 0).trans rfl
 have hfs15 := blk_frozen BK160.out 0
 have hns15_1 := NB163_160.out
 have hms15_1 := NB160_163.out
 have hs16 : w14.cell? ⟨gb160, 1, none⟩ = some (.int .i64 0) := (blk_cell BK160.out 1).trans rfl
 have hfs16 := blk_frozen BK160.out 1
 have hns16_1 := NB163_160.out
 have hms16_1 := NB160_163.out
 refine skip_ (w1 := ?_) (by rfl) rfl ?_ ?_
 rotate_left
 ·go_simp
  rfl
 refine hK.out _ _ ⟨((cell_far (p := ⟨gb160, _, none⟩) NB163_160.out _).trans (((cell_far (p := ⟨gb160, _, none⟩) NB163_160.out _).trans (hHeld.1)))), ((cell_far (p := ⟨gb160, _, none⟩) NB163_160.out _).trans (((cell_far (p := ⟨gb160, _, none⟩) NB163_160.out _).trans (hHeld.2))))⟩ (fun hHeld => ?_)
 clear hK K
 refine done_ (done_of HT_.out (by kernel_rfl)) ?_
 try go_wp2
 refine bodyPost_ret (results_cell_row rfl _ _ gb160 23 #[.int .i64 ji4, .int .i64 t167] (0, 0) _ rfl (bkp BK160) Try.underlying23 rfl (by kernel_rfl)) rfl ?_
 exact ⟨by first | rfl | (simp [errW_none, errW_some] <;> rfl) | (simp only [← hji4]; first | rfl | (simp [errW_none, errW_some] <;> rfl)) | (simp [*, errW_none, errW_some] <;> rfl), hs_ HB⟩


/-! ### spec_l12Quart: function 66 -/
def spec_l12Quart.f (k : Nat) (a0 : Int) : Option (Int × Int) := if a0 = 0 then (some (0, 0)) else (if a0 = 21600000 then (some (500000000, 500000000)) else (if a0 = 64800000 then (some (1000000000, 1000000000)) else (if a0 ≤ 32400000 then ((spec_l12Small.f k a0).bind fun bt177 => (some (bt177.1, bt177.2))) else ((spec_l12Near.f k (wrap64 (64800000 - a0))).bind fun bt179 => (some (bt179.1, bt179.2))))))
theorem spec_l12Quart.mono : ∀ a0 k, LeO (spec_l12Quart.f k a0) (spec_l12Quart.f (k + 1) a0) := by
 intro a0 k
 unfold spec_l12Quart.f
 repeat' first
   | (with_reducible exact spec_l12Near.mono _ _)
   | (with_reducible exact spec_l12Small.mono _ _)
   | (with_reducible exact LeO.refl _)
   | (with_reducible exact LeO.none _)
   | (with_reducible refine LeO.ite ?_ ?_)
   | (with_reducible refine LeO.bind ?_ (fun _ => ?_))
   | exact spec_l12Near.mono _ _
   | exact spec_l12Small.mono _ _
   | exact LeO.none _
   | refine LeO.ite ?_ ?_
   | refine LeO.bind ?_ (fun _ => ?_)
set_option maxHeartbeats 8000000 in
set_option maxRecDepth 100000 in
theorem spec_l12Quart.calls (k : Nat) (a0 : Int) (r1 : Int) (r2 : Int) (w : World) (h : spec_l12Quart.f k a0 = some (r1, r2)) :
  Calls Try.prog 66 #[.int .i64 a0] w fun e w' => e = .returned (.agg #[.int .i64 r1, .int .i64 r2]) ∧ Below w.heap.size w w' := by
 have hu23 := Try.underlying23
 have HB := Aside0.mk (Below.refl w.heap.size w)
 have H : (if a0 = 0 then (some (0, 0)) else (if a0 = 21600000 then (some (500000000, 500000000)) else (if a0 = 64800000 then (some (1000000000, 1000000000)) else (if a0 ≤ 32400000 then ((spec_l12Small.f k a0).bind fun bt177 => (some (bt177.1, bt177.2))) else ((spec_l12Near.f k (wrap64 (64800000 - a0))).bind fun bt179 => (some (bt179.1, bt179.2))))))) = some (r1, r2) := h
 clear h
 by_cases c2 : a0 = 0
 ·rw [if_pos c2] at H
  have c2b0 : (a0 == 0) = true := beq_iff_eq.mpr c2
  have c2b1 : (a0 != 0) = false := bne_eq_false_iff_eq.mpr c2
  clear c2
  simp only [Option.some.injEq, Prod.mk.injEq] at H
  obtain ⟨rfl, rfl⟩ := H
  go_enter Try.func66, Try.ntmps66
  go_wp2_with (first | ((with_reducible refine gate_dst (N := 2) rfl ?_); refine bE 2 #[.int .i64 0, .int .i64 0] 23 ?_; intro gb176 hg w3 hbox hb; have BK176 := Aside0.mk (hbox); have GE176 := gw hg (h0_ HB); have GW176 := GE176; replace HB := hbb (h0_ HB) hb; clear hb hbox hg; obtain ⟨hcz4_0, hcz4_1, hfz4_0, hfz4_1⟩ := cz2 BK176))
  refine bodyPost_ret (results_cell_row rfl _ _ gb176 23 #[.int .i64 0, .int .i64 0] (0, 0) _ rfl (bkp BK176) Try.underlying23 rfl (by kernel_rfl)) rfl ?_
  exact ⟨by first | rfl | (simp [errW_none, errW_some] <;> rfl) | (simp [*, errW_none, errW_some] <;> rfl), hs_ HB⟩
 ·rw [if_neg c2] at H
  have c2b0 : (a0 == 0) = false := beq_eq_false_iff_ne.mpr c2
  have c2b1 : (a0 != 0) = true := bne_iff_ne.mpr c2
  by_cases c5 : a0 = 21600000
  ·rw [if_pos c5] at H
   have c5b0 : (a0 == 21600000) = true := beq_iff_eq.mpr c5
   have c5b1 : (a0 != 21600000) = false := bne_eq_false_iff_eq.mpr c5
   clear c5
   simp only [Option.some.injEq, Prod.mk.injEq] at H
   obtain ⟨rfl, rfl⟩ := H
   go_enter Try.func66, Try.ntmps66
   go_wp2_with (first | ((with_reducible refine gate_dst (N := 2) rfl ?_); refine bE 2 #[.int .i64 0, .int .i64 0] 23 ?_; intro gb176 hg w6 hbox hb; have BK176 := Aside0.mk (hbox); have GE176 := gw hg (h0_ HB); have GW176 := GE176; replace HB := hbb (h0_ HB) hb; clear hb hbox hg; obtain ⟨hcz7_0, hcz7_1, hfz7_0, hfz7_1⟩ := cz2 BK176))
   refine bodyPost_ret (results_cell_row rfl _ _ gb176 23 #[.int .i64 500000000, .int .i64 500000000] (0, 0) _ rfl (bkp BK176) Try.underlying23 rfl (by kernel_rfl)) rfl ?_
   exact ⟨by first | rfl | (simp [errW_none, errW_some] <;> rfl) | (simp [*, errW_none, errW_some] <;> rfl), hs_ HB⟩
  ·rw [if_neg c5] at H
   have c5b0 : (a0 == 21600000) = false := beq_eq_false_iff_ne.mpr c5
   have c5b1 : (a0 != 21600000) = true := bne_iff_ne.mpr c5
   by_cases c8 : a0 = 64800000
   ·rw [if_pos c8] at H
    have c8b0 : (a0 == 64800000) = true := beq_iff_eq.mpr c8
    have c8b1 : (a0 != 64800000) = false := bne_eq_false_iff_eq.mpr c8
    clear c8
    simp only [Option.some.injEq, Prod.mk.injEq] at H
    obtain ⟨rfl, rfl⟩ := H
    go_enter Try.func66, Try.ntmps66
    go_wp2_with (first | ((with_reducible refine gate_dst (N := 2) rfl ?_); refine bE 2 #[.int .i64 0, .int .i64 0] 23 ?_; intro gb176 hg w9 hbox hb; have BK176 := Aside0.mk (hbox); have GE176 := gw hg (h0_ HB); have GW176 := GE176; replace HB := hbb (h0_ HB) hb; clear hb hbox hg; obtain ⟨hcz10_0, hcz10_1, hfz10_0, hfz10_1⟩ := cz2 BK176))
    refine bodyPost_ret (results_cell_row rfl _ _ gb176 23 #[.int .i64 1000000000, .int .i64 1000000000] (0, 0) _ rfl (bkp BK176) Try.underlying23 rfl (by kernel_rfl)) rfl ?_
    exact ⟨by first | rfl | (simp [errW_none, errW_some] <;> rfl) | (simp [*, errW_none, errW_some] <;> rfl), hs_ HB⟩
   ·rw [if_neg c8] at H
    have c8b0 : (a0 == 64800000) = false := beq_eq_false_iff_ne.mpr c8
    have c8b1 : (a0 != 64800000) = true := bne_iff_ne.mpr c8
    by_cases c11 : a0 ≤ 32400000
    ·rw [if_pos c11] at H
     have c11b0 : decide (a0 ≤ 32400000) = true := decide_eq_true c11
     clear c11
     replace H := Option.bind_eq_some_iff.mp H
     obtain ⟨⟨t177, t178⟩, A120, H⟩ := H
     replace H : (some (t177, t178)) = some (r1, r2) := H
     have A12 := Aside0.mk A120
     clear A120
     simp only [Option.some.injEq, Prod.mk.injEq] at H
     obtain ⟨rfl, rfl⟩ := H
     go_enter Try.func66, Try.ntmps66
     go_wp2_with (first | ((with_reducible refine gate_dst (N := 2) rfl ?_); refine bE 2 #[.int .i64 0, .int .i64 0] 23 ?_; intro gb176 hg w13 hbox hb; have BK176 := Aside0.mk (hbox); have GE176 := gw hg (h0_ HB); have GW176 := GE176; replace HB := hbb (h0_ HB) hb; clear hb hbox hg) | ((with_reducible refine gate_callee (f := 85) rfl ?_); refine gL 16 Try.func85 #[.int .i64 a0] ?_; (with_reducible refine (spec_l12Small.calls k a0 t177 t178 _ A12.out).mono ?_); rintro e w14 ⟨rfl, hb⟩; refine ⟨_, rfl, ?_⟩; replace BK176 := bb (bk BK176) hb; replace HB := hbb (hs_ HB) hb; clear hb; obtain ⟨hcz15_0, hcz15_1, hfz15_0, hfz15_1⟩ := cz2 BK176))
     refine bodyPost_ret (results_cell_row rfl _ _ gb176 23 #[.int .i64 t177, .int .i64 t178] (0, 0) _ rfl (bkp BK176) Try.underlying23 rfl (by kernel_rfl)) rfl ?_
     exact ⟨by first | rfl | (simp [errW_none, errW_some] <;> rfl) | (simp [*, errW_none, errW_some] <;> rfl), hs_ HB⟩
    ·rw [if_neg c11] at H
     have c11b0 : decide (a0 ≤ 32400000) = false := decide_eq_false c11
     clear c11
     replace H := Option.bind_eq_some_iff.mp H
     obtain ⟨⟨t179, t180⟩, A160, H⟩ := H
     replace H : (some (t179, t180)) = some (r1, r2) := H
     have A16 := Aside0.mk A160
     clear A160
     simp only [Option.some.injEq, Prod.mk.injEq] at H
     obtain ⟨rfl, rfl⟩ := H
     go_enter Try.func66, Try.ntmps66
     go_wp2_with (first | ((with_reducible refine gate_dst (N := 2) rfl ?_); refine bE 2 #[.int .i64 0, .int .i64 0] 23 ?_; intro gb176 hg w17 hbox hb; have BK176 := Aside0.mk (hbox); have GE176 := gw hg (h0_ HB); have GW176 := GE176; replace HB := hbb (h0_ HB) hb; clear hb hbox hg) | ((with_reducible refine gate_callee (f := 86) rfl ?_); refine gL 19 Try.func86 #[.int .i64 (wrap64 (64800000 - a0))] ?_; (with_reducible refine (spec_l12Near.calls k (wrap64 (64800000 - a0)) t179 t180 _ A16.out).mono ?_); rintro e w18 ⟨rfl, hb⟩; refine ⟨_, rfl, ?_⟩; replace BK176 := bb (bk BK176) hb; replace HB := hbb (hs_ HB) hb; clear hb; obtain ⟨hcz19_0, hcz19_1, hfz19_0, hfz19_1⟩ := cz2 BK176))
     refine bodyPost_ret (results_cell_row rfl _ _ gb176 23 #[.int .i64 t179, .int .i64 t180] (0, 0) _ rfl (bkp BK176) Try.underlying23 rfl (by kernel_rfl)) rfl ?_
     exact ⟨by first | rfl | (simp [errW_none, errW_some] <;> rfl) | (simp [*, errW_none, errW_some] <;> rfl), hs_ HB⟩


/-! ### spec_l12Sine: function 37 -/
def spec_l12Sine.f : Nat → Int → Option (Int × Int)
 | 0, _ => none
 | k + 1, a0 => (spec_l1Down.f a0 259200000).bind fun t182 => (if (wrap64 (a0 - (wrap64 (t182 * 259200000)))) ≥ 129600000 then ((spec_l12Sine.f k (wrap64 ((wrap64 (a0 - (wrap64 (t182 * 259200000)))) - 129600000))).bind fun bt183 => ((spec_SpanNeg.f bt183.1 bt183.2).bind fun bt185 => (some (bt185.1, bt185.2)))) else (if (wrap64 (a0 - (wrap64 (t182 * 259200000)))) > 64800000 then ((spec_l12Quart.f k (wrap64 (129600000 - (wrap64 (a0 - (wrap64 (t182 * 259200000))))))).bind fun bt187 => (some (bt187.1, bt187.2))) else ((spec_l12Quart.f k (wrap64 (a0 - (wrap64 (t182 * 259200000))))).bind fun bt189 => (some (bt189.1, bt189.2)))))
theorem spec_l12Sine.mono_l : ∀ k, (∀ y0, LeO (spec_l12Sine.f k y0) (spec_l12Sine.f (k + 1) y0))
 | 0 => fun _ r h => by simp [spec_l12Sine.f] at h
 | k + 1 => by
  have ih0 := spec_l12Sine.mono_l k
  ·intro y0
   unfold spec_l12Sine.f
   repeat' first
   | (with_reducible exact ih0 _)
   | (with_reducible exact spec_l12Quart.mono _ _)
   | (with_reducible exact LeO.refl _)
   | (with_reducible exact LeO.none _)
   | (with_reducible refine LeO.ite ?_ ?_)
   | (with_reducible refine LeO.bind ?_ (fun _ => ?_))
   | exact ih0 _
   | exact spec_l12Quart.mono _ _
   | exact LeO.none _
   | refine LeO.ite ?_ ?_
   | refine LeO.bind ?_ (fun _ => ?_)
theorem spec_l12Sine.mono : ∀ a0 k, LeO (spec_l12Sine.f k a0) (spec_l12Sine.f (k + 1) a0) := by
 intro a0 k
 have ih0 := spec_l12Sine.mono_l k
 exact ih0 a0
set_option maxHeartbeats 8000000 in
set_option maxRecDepth 100000 in
theorem spec_l12Sine.calls (k : Nat) : ∀ (a0 : Int) (r1 : Int) (r2 : Int) (w : World) (h : spec_l12Sine.f k a0 = some (r1, r2)),
  Calls Try.prog 37 #[.int .i64 a0] w fun e w' => e = .returned (.agg #[.int .i64 r1, .int .i64 r2]) ∧ Below w.heap.size w w' := by
 induction k using Nat.strongRecOn with
 | _ k ih =>
 intro a0 r1 r2 w h
 cases k with
 | zero => exact absurd h (by simp [spec_l12Sine.f])
 | succ k =>
 simp only [spec_l12Sine.f] at h
 have hu23 := Try.underlying23
 have HB := Aside0.mk (Below.refl w.heap.size w)
 have H : ((spec_l1Down.f a0 259200000).bind fun t182 => (if (wrap64 (a0 - (wrap64 (t182 * 259200000)))) ≥ 129600000 then ((spec_l12Sine.f k (wrap64 ((wrap64 (a0 - (wrap64 (t182 * 259200000)))) - 129600000))).bind fun bt183 => ((spec_SpanNeg.f bt183.1 bt183.2).bind fun bt185 => (some (bt185.1, bt185.2)))) else (if (wrap64 (a0 - (wrap64 (t182 * 259200000)))) > 64800000 then ((spec_l12Quart.f k (wrap64 (129600000 - (wrap64 (a0 - (wrap64 (t182 * 259200000))))))).bind fun bt187 => (some (bt187.1, bt187.2))) else ((spec_l12Quart.f k (wrap64 (a0 - (wrap64 (t182 * 259200000))))).bind fun bt189 => (some (bt189.1, bt189.2)))))) = some (r1, r2) := h
 clear h
 replace H := Option.bind_eq_some_iff.mp H
 obtain ⟨t182, A20, H⟩ := H
 replace H : (if (wrap64 (a0 - (wrap64 (t182 * 259200000)))) ≥ 129600000 then ((spec_l12Sine.f k (wrap64 ((wrap64 (a0 - (wrap64 (t182 * 259200000)))) - 129600000))).bind fun bt183 => ((spec_SpanNeg.f bt183.1 bt183.2).bind fun bt185 => (some (bt185.1, bt185.2)))) else (if (wrap64 (a0 - (wrap64 (t182 * 259200000)))) > 64800000 then ((spec_l12Quart.f k (wrap64 (129600000 - (wrap64 (a0 - (wrap64 (t182 * 259200000))))))).bind fun bt187 => (some (bt187.1, bt187.2))) else ((spec_l12Quart.f k (wrap64 (a0 - (wrap64 (t182 * 259200000))))).bind fun bt189 => (some (bt189.1, bt189.2))))) = some (r1, r2) := H
 have A2 := Aside0.mk A20
 clear A20
 by_cases c3 : (wrap64 (a0 - (wrap64 (t182 * 259200000)))) ≥ 129600000
 ·rw [if_pos c3] at H
  have c3b0 : decide (129600000 ≤ (wrap64 (a0 - (wrap64 (t182 * 259200000))))) = true := decide_eq_true c3
  clear c3
  replace H := Option.bind_eq_some_iff.mp H
  obtain ⟨⟨t183, t184⟩, A40, H⟩ := H
  replace H : ((spec_SpanNeg.f t183 t184).bind fun bt185 => (some (bt185.1, bt185.2))) = some (r1, r2) := H
  have A4 := Aside0.mk A40
  clear A40
  replace H := Option.bind_eq_some_iff.mp H
  obtain ⟨⟨t185, t186⟩, A50, H⟩ := H
  replace H : (some (t185, t186)) = some (r1, r2) := H
  have A5 := Aside0.mk A50
  clear A50
  simp only [Option.some.injEq, Prod.mk.injEq] at H
  obtain ⟨rfl, rfl⟩ := H
  go_enter Try.func37, Try.ntmps37
  go_wp2_with (first | ((with_reducible refine gate_dst (N := 2) rfl ?_); refine bE 2 #[.int .i64 0, .int .i64 0] 23 ?_; intro gb181 hg w6 hbox hb; have BK181 := Aside0.mk (hbox); have GE181 := gw hg (h0_ HB); have GW181 := GE181; replace HB := hbb (h0_ HB) hb; clear hb hbox hg) | ((with_reducible refine gate_callee (f := 64) rfl ?_); refine gL 7 Try.func64 #[.int .i64 a0, .int .i64 259200000] ?_; (with_reducible refine (spec_l1Down.calls a0 259200000 t182 _ A2.out).mono ?_); rintro e w' ⟨rfl, ⟨nd, rfl⟩⟩; refine ⟨_, rfl, ?_⟩; (try (rw [drewN_self w6]; generalize hq_ : World.drewN w6 _ = w6; have n0_ : Aside0 (w6.heap[gb181]? = some (.cells #[.int .i64 0, .int .i64 0] 23 (0, 0))) := ⟨by rw [← hq_]; exact (bk BK181)⟩; have n1_ : Aside0 (Below w.heap.size w w6) := ⟨by rw [← hq_]; exact (hs_ HB)⟩; clear BK181 HB hq_; have BK181 := n0_; have HB := n1_; clear n0_ n1_))) | ((with_reducible refine gate_callee (f := 37) rfl ?_); refine gL 15 Try.func37 #[.int .i64 (wrap64 ((wrap64 (a0 - (wrap64 (t182 * 259200000)))) - 129600000))] ?_; (with_reducible refine (ih k (by omega) (wrap64 ((wrap64 (a0 - (wrap64 (t182 * 259200000)))) - 129600000)) t183 t184 _ A4.out).mono ?_); rintro e w7 ⟨rfl, hb⟩; refine ⟨_, rfl, ?_⟩; replace BK181 := bb (bk BK181) hb; replace HB := hbb (hs_ HB) hb; clear hb) | ((with_reducible refine gate_callee (f := 65) rfl ?_); refine gL 16 Try.func65 #[.agg #[.int .i64 t183, .int .i64 t184]] ?_; (with_reducible refine (spec_SpanNeg.calls t183 t184 t185 t186 _ A5.out).mono ?_); rintro e w8 ⟨rfl, hb⟩; refine ⟨_, rfl, ?_⟩; replace BK181 := bb (bk BK181) hb; replace HB := hbb (hs_ HB) hb; clear hb; obtain ⟨hcz9_0, hcz9_1, hfz9_0, hfz9_1⟩ := cz2 BK181))
  refine bodyPost_ret (results_cell_row rfl _ _ gb181 23 #[.int .i64 t185, .int .i64 t186] (0, 0) _ rfl (bkp BK181) Try.underlying23 rfl (by kernel_rfl)) rfl ?_
  exact ⟨by first | rfl | (simp [errW_none, errW_some] <;> rfl) | (simp [*, errW_none, errW_some] <;> rfl), hs_ HB⟩
 ·rw [if_neg c3] at H
  have c3b0 : decide (129600000 ≤ (wrap64 (a0 - (wrap64 (t182 * 259200000))))) = false := decide_eq_false c3
  clear c3
  by_cases c10 : (wrap64 (a0 - (wrap64 (t182 * 259200000)))) > 64800000
  ·rw [if_pos c10] at H
   have c10b0 : decide (64800000 < (wrap64 (a0 - (wrap64 (t182 * 259200000))))) = true := decide_eq_true c10
   clear c10
   replace H := Option.bind_eq_some_iff.mp H
   obtain ⟨⟨t187, t188⟩, A110, H⟩ := H
   replace H : (some (t187, t188)) = some (r1, r2) := H
   have A11 := Aside0.mk A110
   clear A110
   simp only [Option.some.injEq, Prod.mk.injEq] at H
   obtain ⟨rfl, rfl⟩ := H
   go_enter Try.func37, Try.ntmps37
   go_wp2_with (first | ((with_reducible refine gate_dst (N := 2) rfl ?_); refine bE 2 #[.int .i64 0, .int .i64 0] 23 ?_; intro gb181 hg w12 hbox hb; have BK181 := Aside0.mk (hbox); have GE181 := gw hg (h0_ HB); have GW181 := GE181; replace HB := hbb (h0_ HB) hb; clear hb hbox hg) | ((with_reducible refine gate_callee (f := 64) rfl ?_); refine gL 7 Try.func64 #[.int .i64 a0, .int .i64 259200000] ?_; (with_reducible refine (spec_l1Down.calls a0 259200000 t182 _ A2.out).mono ?_); rintro e w' ⟨rfl, ⟨nd, rfl⟩⟩; refine ⟨_, rfl, ?_⟩; (try (rw [drewN_self w12]; generalize hq_ : World.drewN w12 _ = w12; have n0_ : Aside0 (w12.heap[gb181]? = some (.cells #[.int .i64 0, .int .i64 0] 23 (0, 0))) := ⟨by rw [← hq_]; exact (bk BK181)⟩; have n1_ : Aside0 (Below w.heap.size w w12) := ⟨by rw [← hq_]; exact (hs_ HB)⟩; clear BK181 HB hq_; have BK181 := n0_; have HB := n1_; clear n0_ n1_))) | ((with_reducible refine gate_callee (f := 66) rfl ?_); refine gL 21 Try.func66 #[.int .i64 (wrap64 (129600000 - (wrap64 (a0 - (wrap64 (t182 * 259200000))))))] ?_; (with_reducible refine (spec_l12Quart.calls k (wrap64 (129600000 - (wrap64 (a0 - (wrap64 (t182 * 259200000)))))) t187 t188 _ A11.out).mono ?_); rintro e w13 ⟨rfl, hb⟩; refine ⟨_, rfl, ?_⟩; replace BK181 := bb (bk BK181) hb; replace HB := hbb (hs_ HB) hb; clear hb; obtain ⟨hcz14_0, hcz14_1, hfz14_0, hfz14_1⟩ := cz2 BK181))
   refine bodyPost_ret (results_cell_row rfl _ _ gb181 23 #[.int .i64 t187, .int .i64 t188] (0, 0) _ rfl (bkp BK181) Try.underlying23 rfl (by kernel_rfl)) rfl ?_
   exact ⟨by first | rfl | (simp [errW_none, errW_some] <;> rfl) | (simp [*, errW_none, errW_some] <;> rfl), hs_ HB⟩
  ·rw [if_neg c10] at H
   have c10b0 : decide (64800000 < (wrap64 (a0 - (wrap64 (t182 * 259200000))))) = false := decide_eq_false c10
   clear c10
   replace H := Option.bind_eq_some_iff.mp H
   obtain ⟨⟨t189, t190⟩, A150, H⟩ := H
   replace H : (some (t189, t190)) = some (r1, r2) := H
   have A15 := Aside0.mk A150
   clear A150
   simp only [Option.some.injEq, Prod.mk.injEq] at H
   obtain ⟨rfl, rfl⟩ := H
   go_enter Try.func37, Try.ntmps37
   go_wp2_with (first | ((with_reducible refine gate_dst (N := 2) rfl ?_); refine bE 2 #[.int .i64 0, .int .i64 0] 23 ?_; intro gb181 hg w16 hbox hb; have BK181 := Aside0.mk (hbox); have GE181 := gw hg (h0_ HB); have GW181 := GE181; replace HB := hbb (h0_ HB) hb; clear hb hbox hg) | ((with_reducible refine gate_callee (f := 64) rfl ?_); refine gL 7 Try.func64 #[.int .i64 a0, .int .i64 259200000] ?_; (with_reducible refine (spec_l1Down.calls a0 259200000 t182 _ A2.out).mono ?_); rintro e w' ⟨rfl, ⟨nd, rfl⟩⟩; refine ⟨_, rfl, ?_⟩; (try (rw [drewN_self w16]; generalize hq_ : World.drewN w16 _ = w16; have n0_ : Aside0 (w16.heap[gb181]? = some (.cells #[.int .i64 0, .int .i64 0] 23 (0, 0))) := ⟨by rw [← hq_]; exact (bk BK181)⟩; have n1_ : Aside0 (Below w.heap.size w w16) := ⟨by rw [← hq_]; exact (hs_ HB)⟩; clear BK181 HB hq_; have BK181 := n0_; have HB := n1_; clear n0_ n1_))) | ((with_reducible refine gate_callee (f := 66) rfl ?_); refine gL 23 Try.func66 #[.int .i64 (wrap64 (a0 - (wrap64 (t182 * 259200000))))] ?_; (with_reducible refine (spec_l12Quart.calls k (wrap64 (a0 - (wrap64 (t182 * 259200000)))) t189 t190 _ A15.out).mono ?_); rintro e w17 ⟨rfl, hb⟩; refine ⟨_, rfl, ?_⟩; replace BK181 := bb (bk BK181) hb; replace HB := hbb (hs_ HB) hb; clear hb; obtain ⟨hcz18_0, hcz18_1, hfz18_0, hfz18_1⟩ := cz2 BK181))
   refine bodyPost_ret (results_cell_row rfl _ _ gb181 23 #[.int .i64 t189, .int .i64 t190] (0, 0) _ rfl (bkp BK181) Try.underlying23 rfl (by kernel_rfl)) rfl ?_
   exact ⟨by first | rfl | (simp [errW_none, errW_some] <;> rfl) | (simp [*, errW_none, errW_some] <;> rfl), hs_ HB⟩


end Go.Proofs.Ytcdgplkmahabiaa.M
