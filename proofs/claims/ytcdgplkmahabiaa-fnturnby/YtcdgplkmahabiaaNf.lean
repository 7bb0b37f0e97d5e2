import Derived.Test.YtcdgplkmahabiaaM0
import Derived.Test.YtcdgplkmahabiaaNa
import Derived.Test.YtcdgplkmahabiaaNb
namespace Go.Proofs.Ytcdgplkmahabiaa.M
open Go.RowKit Go.Proofs.YtcdgplkmahabiaaW.PrintWords Go.Proofs.YtcdgplkmahabiaaW.PrintLast Go.Proofs.YtcdgplkmahabiaaW.PrintMore
attribute [local go_sem] max2_int min2_int max_two min_two max_three min_three max_four min_four
attribute [local go_sem high] eqA23 eqA30
attribute [local go_sem] fld23_0 fld23_1 fld30_0 fld30_1 fld55_0 fld55_1 fld55_2 fld55_3 fld55_4
set_option linter.unusedVariables false
set_option linter.unusedSimpArgs false

/-! ### spec_l2Fit: function 69 -/
def spec_l2Fit.f (a0 : Int) (a1 : Int) : Option (Int × Int × Bool) := (spec_SpanOk.f a0 a1).bind fun t158 => (if t158 = true then (some (a0, a1, true)) else (some (0, 0, false)))
set_option maxHeartbeats 8000000 in
set_option maxRecDepth 100000 in
theorem spec_l2Fit.calls (a0 : Int) (a1 : Int) (r1 : Int) (r2 : Int) (r3 : Bool) (w : World) (h : spec_l2Fit.f a0 a1 = some (r1, r2, r3)) :
  Calls Try.prog 69 #[.int .i64 a0, .int .i64 a1] w fun e w' => e = .returned (.tuple #[.agg #[.int .i64 r1, .int .i64 r2], .bool r3]) ∧ Below w.heap.size w w' := by
 have hu23 := Try.underlying23
 have HB := Aside0.mk (Below.refl w.heap.size w)
 have H : ((spec_SpanOk.f a0 a1).bind fun t158 => (if t158 = true then (some (a0, a1, true)) else (some (0, 0, false)))) = some (r1, r2, r3) := h
 clear h
 replace H := Option.bind_eq_some_iff.mp H
 obtain ⟨t158, A30, H⟩ := H
 replace H : (if t158 = true then (some (a0, a1, true)) else (some (0, 0, false))) = some (r1, r2, r3) := H
 have A3 := Aside0.mk A30
 clear A30
 by_cases c4 : t158 = true
 ·subst c4
  have H1 : (some (a0, a1, true)) = some (r1, r2, r3) := by rw [if_pos rfl] at H; exact H
  clear H
  have H := H1
  clear H1
  simp only [Option.some.injEq, Prod.mk.injEq] at H
  obtain ⟨rfl, rfl, rfl⟩ := H
  go_enter Try.func69, Try.ntmps69
  go_wp2_with (first | ((with_reducible refine gate_dst (N := 4) rfl ?_); refine bE 4 #[.int .i64 0, .int .i64 0] 23 ?_; intro gb156 hg w5 hbox hb; have BK156 := Aside0.mk (hbox); have GE156 := gw hg (h0_ HB); have GW156 := GE156; replace HB := hbb (h0_ HB) hb; clear hb hbox hg) | ((with_reducible refine gate_dst (N := 6) rfl ?_); refine bE 6 #[.int .i64 0, .int .i64 0] 23 ?_; intro gb157 hg w6 hbox hb; have BK157 := Aside0.mk (hbox); have GE157 := gw hg (hs_ HB); have GW157 := GE157; have NB156_157 := nl hg (bk BK156); have NB157_156 := ng hg (bk BK156); replace BK156 := bb (bk BK156) hb; replace HB := hbb (hs_ HB) hb; clear hb hbox hg; have hnb7 := NB157_156.out; have hnc7 := NB156_157.out; obtain ⟨hcz8_0, hcz8_1, hfz8_0, hfz8_1⟩ := cz2 BK157) | ((with_reducible refine gate_callee (f := 67) rfl ?_); refine gL 11 Try.func67 #[.agg #[.int .i64 a0, .int .i64 a1]] ?_; (with_reducible refine (spec_SpanOk.calls a0 a1 true _ A3.out).mono ?_); rintro e w9 ⟨rfl, hb⟩; refine ⟨_, rfl, ?_⟩; replace BK156 := bb (bk1 BK156 NB156_157) hb; replace BK157 := bb (o := .cells #[.int .i64 a0, .int .i64 a1] 23 (0, 0)) (bkp BK157) hb; replace HB := hbb (hs_ HB) hb; clear hb; obtain ⟨hcz10_0, hcz10_1, hfz10_0, hfz10_1⟩ := cz2 BK157; obtain ⟨hcz11_0, hcz11_1, hfz11_0, hfz11_1⟩ := cz2 BK156))
  refine bodyPost_ret (results_ct rfl _ _ gb156 23 #[.int .i64 a0, .int .i64 a1] (0, 0) _ rfl (bkp BK156) Try.underlying23 rfl (by kernel_rfl)) rfl ?_
  exact ⟨by first | rfl | (simp [errW_none, errW_some] <;> rfl) | (simp [*, errW_none, errW_some] <;> rfl), hs_ HB⟩
 ·replace c4 := Bool.eq_false_iff.mpr c4
  subst c4
  have H1 : (some (0, 0, false)) = some (r1, r2, r3) := by rw [if_neg (show ¬ (false = true) by decide)] at H; exact H
  clear H
  have H := H1
  clear H1
  simp only [Option.some.injEq, Prod.mk.injEq] at H
  obtain ⟨rfl, rfl, rfl⟩ := H
  go_enter Try.func69, Try.ntmps69
  go_wp2_with (first | ((with_reducible refine gate_dst (N := 4) rfl ?_); refine bE 4 #[.int .i64 0, .int .i64 0] 23 ?_; intro gb156 hg w12 hbox hb; have BK156 := Aside0.mk (hbox); have GE156 := gw hg (h0_ HB); have GW156 := GE156; replace HB := hbb (h0_ HB) hb; clear hb hbox hg) | ((with_reducible refine gate_dst (N := 6) rfl ?_); refine bE 6 #[.int .i64 0, .int .i64 0] 23 ?_; intro gb157 hg w13 hbox hb; have BK157 := Aside0.mk (hbox); have GE157 := gw hg (hs_ HB); have GW157 := GE157; have NB156_157 := nl hg (bk BK156); have NB157_156 := ng hg (bk BK156); replace BK156 := bb (bk BK156) hb; replace HB := hbb (hs_ HB) hb; clear hb hbox hg; have hnb14 := NB157_156.out; have hnc14 := NB156_157.out; obtain ⟨hcz15_0, hcz15_1, hfz15_0, hfz15_1⟩ := cz2 BK157) | ((with_reducible refine gate_callee (f := 67) rfl ?_); refine gL 11 Try.func67 #[.agg #[.int .i64 a0, .int .i64 a1]] ?_; (with_reducible refine (spec_SpanOk.calls a0 a1 false _ A3.out).mono ?_); rintro e w16 ⟨rfl, hb⟩; refine ⟨_, rfl, ?_⟩; replace BK156 := bb (bk1 BK156 NB156_157) hb; replace BK157 := bb (o := .cells #[.int .i64 a0, .int .i64 a1] 23 (0, 0)) (bkp BK157) hb; replace HB := hbb (hs_ HB) hb; clear hb; obtain ⟨hcz17_0, hcz17_1, hfz17_0, hfz17_1⟩ := cz2 BK156))
  refine bodyPost_ret (results_ct rfl _ _ gb156 23 #[.int .i64 0, .int .i64 0] (0, 0) _ rfl (bkp BK156) Try.underlying23 rfl (by kernel_rfl)) rfl ?_
  exact ⟨by first | rfl | (simp [errW_none, errW_some] <;> rfl) | (simp [*, errW_none, errW_some] <;> rfl), hs_ HB⟩


/-! ### spec_l2Four: function 68 -/
def spec_l2Four.f (a0 : Int) (a1 : Int) (a2 : Int) (a3 : Int) : Option (Int × Int) := some (mn (mn a0 a1) (mn a2 a3), mx (mx a0 a1) (mx a2 a3))
set_option maxHeartbeats 8000000 in
set_option maxRecDepth 100000 in
theorem spec_l2Four.calls (a0 : Int) (a1 : Int) (a2 : Int) (a3 : Int) (r1 : Int) (r2 : Int) (w : World) (h : spec_l2Four.f a0 a1 a2 a3 = some (r1, r2)) :
  Calls Try.prog 68 #[.int .i64 a0, .int .i64 a1, .int .i64 a2, .int .i64 a3] w fun e w' => e = .returned (.tuple #[.int .i64 r1, .int .i64 r2]) ∧ Below w.heap.size w w' := by
 have HB := Aside0.mk (Below.refl w.heap.size w)
 have H : (some (mn (mn a0 a1) (mn a2 a3), mx (mx a0 a1) (mx a2 a3))) = some (r1, r2) := h
 clear h
 obtain ⟨ji5, hji5⟩ : ∃ j_ : Int, (mn a0 a1) = j_ := ⟨_, rfl⟩
 replace H : (some (mn (ji5) (mn a2 a3), mx (mx a0 a1) (mx a2 a3))) = some (r1, r2) := by first | (rw [hji5] at H; exact H) | (simp only [hji5] at H ⊢; exact H)
 have hji5_ : (if a1 < a0 then a1 else a0) = ji5 := hji5
 obtain ⟨ji6, hji6⟩ : ∃ j_ : Int, (mn a2 a3) = j_ := ⟨_, rfl⟩
 replace H : (some (mn (ji5) (ji6), mx (mx a0 a1) (mx a2 a3))) = some (r1, r2) := by first | (rw [hji6] at H; exact H) | (simp only [hji6] at H ⊢; exact H)
 have hji6_ : (if a3 < a2 then a3 else a2) = ji6 := hji6
 obtain ⟨ji7, hji7⟩ : ∃ j_ : Int, (mn (ji5) (ji6)) = j_ := ⟨_, rfl⟩
 replace H : (some (ji7, mx (mx a0 a1) (mx a2 a3))) = some (r1, r2) := by first | (rw [hji7] at H; exact H) | (simp only [hji7] at H ⊢; exact H)
 have hji7_ : (if (ji6) < (ji5) then (ji6) else (ji5)) = ji7 := hji7
 obtain ⟨ji8, hji8⟩ : ∃ j_ : Int, (mx a0 a1) = j_ := ⟨_, rfl⟩
 replace H : (some (ji7, mx (ji8) (mx a2 a3))) = some (r1, r2) := by first | (rw [hji8] at H; exact H) | (simp only [hji8] at H ⊢; exact H)
 have hji8_ : (if a0 < a1 then a1 else a0) = ji8 := hji8
 obtain ⟨ji9, hji9⟩ : ∃ j_ : Int, (mx a2 a3) = j_ := ⟨_, rfl⟩
 replace H : (some (ji7, mx (ji8) (ji9))) = some (r1, r2) := by first | (rw [hji9] at H; exact H) | (simp only [hji9] at H ⊢; exact H)
 have hji9_ : (if a2 < a3 then a3 else a2) = ji9 := hji9
 obtain ⟨ji10, hji10⟩ : ∃ j_ : Int, (mx (ji8) (ji9)) = j_ := ⟨_, rfl⟩
 replace H : (some (ji7, ji10)) = some (r1, r2) := by first | (rw [hji10] at H; exact H) | (simp only [hji10] at H ⊢; exact H)
 have hji10_ : (if (ji8) < (ji9) then (ji9) else (ji8)) = ji10 := hji10
 simp only [Option.some.injEq, Prod.mk.injEq] at H
 obtain ⟨rfl, rfl⟩ := H
 go_enter Try.func68, Try.ntmps68
 go_wp2
 go_ret2
 exact ⟨by first | rfl | (simp [errW_none, errW_some] <;> rfl) | (simp only [← hji5, ← hji6, ← hji7, ← hji8, ← hji9, ← hji10]; first | rfl | (simp [errW_none, errW_some] <;> rfl)) | (simp [*, errW_none, errW_some] <;> rfl), h0_ HB⟩


/-! ### spec_SpanMul: function 38 -/
def spec_SpanMul.j0 : Nat → Bool → Int → Int → Int → Int → Option (Int × Int × Bool)
 | 0, _, _, _, _, _ => none
 | k + 1, x15, x160000, x160001, x161000, x161001 => if x15 = true then (some (0, 0, false)) else ((spec_l2Four.f (wrap64 (x160000 * x161000)) (wrap64 (x160000 * x161001)) (wrap64 (x160001 * x161000)) (wrap64 (x160001 * x161001))).bind fun bt164 => ((spec_l1Down.f bt164.1 1000000000).bind fun t166 => ((spec_l1Up.f bt164.2 1000000000).bind fun t167 => ((spec_l2Fit.f t166 t167).bind fun bt168 => (some (bt168.1, bt168.2.1, bt168.2.2))))))
def spec_SpanMul.f (k : Nat) (a0_0 : Int) (a0_1 : Int) (a1_0 : Int) (a1_1 : Int) : Option (Int × Int × Bool) := (spec_SpanOk.f a0_0 a0_1).bind fun t162 => (if t162 = true then ((spec_SpanOk.f a1_0 a1_1).bind fun t163 => (spec_SpanMul.j0 k (!t163) a0_0 a0_1 a1_0 a1_1)) else (spec_SpanMul.j0 k true a0_0 a0_1 a1_0 a1_1))
theorem spec_SpanMul.mono_l : ∀ k, (∀ y0 y1 y2 y3 y4, LeO (spec_SpanMul.j0 k y0 y1 y2 y3 y4) (spec_SpanMul.j0 (k + 1) y0 y1 y2 y3 y4))
 | 0 => fun _ _ _ _ _ r h => by simp [spec_SpanMul.j0] at h
 | k + 1 => by
  have ih0 := spec_SpanMul.mono_l k
  ·intro y0 y1 y2 y3 y4
   unfold spec_SpanMul.j0
   repeat' first
   | (with_reducible exact ih0 _ _ _ _ _)
   | (with_reducible exact LeO.refl _)
   | (with_reducible exact LeO.none _)
   | (with_reducible refine LeO.ite ?_ ?_)
   | (with_reducible refine LeO.bind ?_ (fun _ => ?_))
   | exact ih0 _ _ _ _ _
   | exact LeO.none _
   | refine LeO.ite ?_ ?_
   | refine LeO.bind ?_ (fun _ => ?_)
theorem spec_SpanMul.mono : ∀ a0 a1 a2 a3 k, LeO (spec_SpanMul.f k a0 a1 a2 a3) (spec_SpanMul.f (k + 1) a0 a1 a2 a3) := by
 intro a0 a1 a2 a3 k
 have ih0 := spec_SpanMul.mono_l k
 unfold spec_SpanMul.f
 repeat' first
   | (with_reducible exact ih0 _ _ _ _ _)
   | (with_reducible exact LeO.refl _)
   | (with_reducible exact LeO.none _)
   | (with_reducible refine LeO.ite ?_ ?_)
   | (with_reducible refine LeO.bind ?_ (fun _ => ?_))
   | exact ih0 _ _ _ _ _
   | exact LeO.none _
   | refine LeO.ite ?_ ?_
   | refine LeO.bind ?_ (fun _ => ?_)
set_option maxHeartbeats 8000000 in
set_option maxRecDepth 100000 in
theorem spec_SpanMul.calls (k : Nat) (a0_0 : Int) (a0_1 : Int) (a1_0 : Int) (a1_1 : Int) (r1 : Int) (r2 : Int) (r3 : Bool) (w : World) (h : spec_SpanMul.f k a0_0 a0_1 a1_0 a1_1 = some (r1, r2, r3)) :
  Calls Try.prog 38 #[.agg #[.int .i64 a0_0, .int .i64 a0_1], .agg #[.int .i64 a1_0, .int .i64 a1_1]] w fun e w' => e = .returned (.tuple #[.agg #[.int .i64 r1, .int .i64 r2], .bool r3]) ∧ Below w.heap.size w w' := by
 have hu23 := Try.underlying23
 have HB := Aside0.mk (Below.refl w.heap.size w)
 have H : ((spec_SpanOk.f a0_0 a0_1).bind fun t162 => (if t162 = true then ((spec_SpanOk.f a1_0 a1_1).bind fun t163 => (spec_SpanMul.j0 k (!t163) a0_0 a0_1 a1_0 a1_1)) else (spec_SpanMul.j0 k true a0_0 a0_1 a1_0 a1_1))) = some (r1, r2, r3) := h
 clear h
 have HC3 := Aside0.mk H
 clear H
 go_enter Try.func38, Try.ntmps38
 go_upto_region 1 with (first | ((with_reducible refine gate_dst (N := 2) rfl ?_); refine bE 2 #[.int .i64 a0_0, .int .i64 a0_1] 23 ?_; intro gb159 hg w4 hbox hb; have BK159 := Aside0.mk (hbox); have GE159 := gw hg (h0_ HB); have GW159 := GE159; replace HB := hbb (h0_ HB) hb; clear hb hbox hg) | ((with_reducible refine gate_dst (N := 3) rfl ?_); refine bE 3 #[.int .i64 a1_0, .int .i64 a1_1] 23 ?_; intro gb160 hg w5 hbox hb; have BK160 := Aside0.mk (hbox); have GE160 := gw hg (hs_ HB); have GW160 := GE160; have NB159_160 := nl hg (bk BK159); have NB160_159 := ng hg (bk BK159); replace BK159 := bb (bk BK159) hb; replace HB := hbb (hs_ HB) hb; clear hb hbox hg) | ((with_reducible refine gate_dst (N := 4) rfl ?_); refine bE 4 #[.int .i64 0, .int .i64 0] 23 ?_; intro gb161 hg w6 hbox hb; have BK161 := Aside0.mk (hbox); have GE161 := gw hg (hs_ HB); have GW161 := GE161; have NB159_161 := nl hg (bk BK159); have NB161_159 := ng hg (bk BK159); have NB160_161 := nl hg (bk BK160); have NB161_160 := ng hg (bk BK160); replace BK159 := bb (bk BK159) hb; replace BK160 := bb (bk BK160) hb; replace HB := hbb (hs_ HB) hb; clear hb hbox hg))
 (try simp only [Act.put, List.setIfInBounds_toArray, List.set_cons_zero, List.set_cons_succ])
 go_cut [15] (fun v15 wc => ∃ (kq : Nat) (x15_2 : Bool), v15 = .bool x15_2 ∧ Aside0 (spec_SpanMul.j0 kq x15_2 a0_0 a0_1 a1_0 a1_1 = some (r1, r2, r3)) ∧ Aside0 (kq ≤ k) ∧ Aside0 (wc.heap[gb159]? = some (.cells #[.int .i64 a0_0, .int .i64 a0_1] 23 (0, 0))) ∧ Aside0 (wc.heap[gb160]? = some (.cells #[.int .i64 a1_0, .int .i64 a1_1] 23 (0, 0))) ∧ Aside0 (wc.heap[gb161]? = some (.cells #[.int .i64 0, .int .i64 0] 23 (0, 0))) ∧ Aside0 (Below w.heap.size w wc))
 case first =>
  have H := HC3.out
  clear HC3
  replace H := Option.bind_eq_some_iff.mp H
  obtain ⟨t162, A70, H⟩ := H
  replace H : (if t162 = true then ((spec_SpanOk.f a1_0 a1_1).bind fun t163 => (spec_SpanMul.j0 k (!t163) a0_0 a0_1 a1_0 a1_1)) else (spec_SpanMul.j0 k true a0_0 a0_1 a1_0 a1_1)) = some (r1, r2, r3) := H
  have A7 := Aside0.mk A70
  clear A70
  by_cases c8 : t162 = true
  ·subst c8
   have H1 : ((spec_SpanOk.f a1_0 a1_1).bind fun t163 => (spec_SpanMul.j0 k (!t163) a0_0 a0_1 a1_0 a1_1)) = some (r1, r2, r3) := by rw [if_pos rfl] at H; exact H
   clear H
   have H := H1
   clear H1
   replace H := Option.bind_eq_some_iff.mp H
   obtain ⟨t163, A90, H⟩ := H
   replace H : (spec_SpanMul.j0 k (!t163) a0_0 a0_1 a1_0 a1_1) = some (r1, r2, r3) := H
   have A9 := Aside0.mk A90
   clear A90
   have H' := Aside0.mk H
   clear H
   have hnb10 := NB159_160.out
   have hnc10 := NB160_159.out
   have hnb11 := NB159_161.out
   have hnc11 := NB161_159.out
   obtain ⟨hcz12_0, hcz12_1, hfz12_0, hfz12_1⟩ := cz2 BK159
   go_wp2_with (first | ((with_reducible refine gate_callee (f := 67) rfl ?_); refine gL 9 Try.func67 #[.agg #[.int .i64 a0_0, .int .i64 a0_1]] ?_; (with_reducible refine (spec_SpanOk.calls a0_0 a0_1 true _ A7.out).mono ?_); rintro e w13 ⟨rfl, hb⟩; refine ⟨_, rfl, ?_⟩; replace BK159 := bb (bk BK159) hb; replace BK160 := bb (bk BK160) hb; replace BK161 := bb (bk BK161) hb; replace HB := hbb (hs_ HB) hb; clear hb; have hnb14 := NB160_161.out; have hnc14 := NB161_160.out; obtain ⟨hcz15_0, hcz15_1, hfz15_0, hfz15_1⟩ := cz2 BK160) | (go_at_call 67; (with_reducible refine (spec_SpanOk.calls a1_0 a1_1 t163 _ A9.out).mono ?_); rintro e w16 ⟨rfl, hb⟩; replace BK159 := bb (bk BK159) hb; replace BK160 := bb (bk BK160) hb; replace BK161 := bb (bk BK161) hb; replace HB := hbb (hs_ HB) hb; clear hb))
   go_meet
   case rel => exact ⟨_, (!t163), (by first | rfl | (simp; done) | (simp [*]; done)), H', ⟨by first | omega | exact Nat.le_refl _⟩, ⟨bk BK159⟩, ⟨bk BK160⟩, ⟨bk BK161⟩, ⟨hs_ HB⟩⟩
  ·replace c8 := Bool.eq_false_iff.mpr c8
   subst c8
   have H1 : (spec_SpanMul.j0 k true a0_0 a0_1 a1_0 a1_1) = some (r1, r2, r3) := by rw [if_neg (show ¬ (false = true) by decide)] at H; exact H
   clear H
   have H := H1
   clear H1
   have H' := Aside0.mk H
   clear H
   have hnb17 := NB159_160.out
   have hnc17 := NB160_159.out
   have hnb18 := NB159_161.out
   have hnc18 := NB161_159.out
   obtain ⟨hcz19_0, hcz19_1, hfz19_0, hfz19_1⟩ := cz2 BK159
   go_wp2_with (first | ((with_reducible refine gate_callee (f := 67) rfl ?_); refine gL 9 Try.func67 #[.agg #[.int .i64 a0_0, .int .i64 a0_1]] ?_; (with_reducible refine (spec_SpanOk.calls a0_0 a0_1 false _ A7.out).mono ?_); rintro e w20 ⟨rfl, hb⟩; refine ⟨_, rfl, ?_⟩; replace BK159 := bb (bk BK159) hb; replace BK160 := bb (bk BK160) hb; replace BK161 := bb (bk BK161) hb; replace HB := hbb (hs_ HB) hb; clear hb))
   go_meet
   case rel => exact ⟨_, (true), (by first | rfl | (simp; done) | (simp [*]; done)), H', ⟨by first | omega | exact Nat.le_refl _⟩, ⟨bk BK159⟩, ⟨bk BK160⟩, ⟨bk BK161⟩, ⟨hs_ HB⟩⟩
 case rest =>
  clear HC3
  try clear c1
  try clear p2
  try clear c3
  try clear c6
  try clear c8
  try clear c10
  try clear c11
  try clear c14
  try clear c17
  try clear c18
  try clear hcz12_0
  try clear hcz12_1
  try clear hcz15_0
  try clear hcz15_1
  try clear hcz19_0
  try clear hcz19_1
  try clear hfz12_0
  try clear hfz12_1
  try clear hfz15_0
  try clear hfz15_1
  try clear hfz19_0
  try clear hfz19_1
  obtain ⟨kq, x15_2, rfl, HA, HJ2, BK159, BK160, BK161, HB⟩ := hcut
  cases kq with
  | zero => exact absurd HA.out (by simp [spec_SpanMul.j0])
  | succ kj2 =>
   have H := HA.out
   clear HA
   simp only [spec_SpanMul.j0] at H
   by_cases c21 : x15_2 = true
   ·subst c21
    have H1 : (some (0, 0, false)) = some (r1, r2, r3) := by rw [if_pos rfl] at H; exact H
    clear H
    have H := H1
    clear H1
    simp only [Option.some.injEq, Prod.mk.injEq] at H
    obtain ⟨rfl, rfl, rfl⟩ := H
    have hnb22 := NB161_159.out
    have hnc22 := NB159_161.out
    have hnb23 := NB161_160.out
    have hnc23 := NB160_161.out
    obtain ⟨hcz24_0, hcz24_1, hfz24_0, hfz24_1⟩ := cz2 BK161
    go_wp2
    refine bodyPost_ret (results_ct rfl _ _ gb161 23 #[.int .i64 0, .int .i64 0] (0, 0) _ rfl (bkp BK161) Try.underlying23 rfl (by kernel_rfl)) rfl ?_
    exact ⟨by first | rfl | (simp [errW_none, errW_some] <;> rfl) | (simp [*, errW_none, errW_some] <;> rfl), hs_ HB⟩
   ·replace c21 := Bool.eq_false_iff.mpr c21
    subst c21
    have H1 : ((spec_l2Four.f (wrap64 (a0_0 * a1_0)) (wrap64 (a0_0 * a1_1)) (wrap64 (a0_1 * a1_0)) (wrap64 (a0_1 * a1_1))).bind fun bt164 => ((spec_l1Down.f bt164.1 1000000000).bind fun t166 => ((spec_l1Up.f bt164.2 1000000000).bind fun t167 => ((spec_l2Fit.f t166 t167).bind fun bt168 => (some (bt168.1, bt168.2.1, bt168.2.2)))))) = some (r1, r2, r3) := by rw [if_neg (show ¬ (false = true) by decide)] at H; exact H
    clear H
    have H := H1
    clear H1
    replace H := Option.bind_eq_some_iff.mp H
    obtain ⟨⟨t164, t165⟩, A250, H⟩ := H
    replace H : ((spec_l1Down.f t164 1000000000).bind fun t166 => ((spec_l1Up.f t165 1000000000).bind fun t167 => ((spec_l2Fit.f t166 t167).bind fun bt168 => (some (bt168.1, bt168.2.1, bt168.2.2))))) = some (r1, r2, r3) := H
    have A25 := Aside0.mk A250
    clear A250
    replace H := Option.bind_eq_some_iff.mp H
    obtain ⟨t166, A260, H⟩ := H
    replace H : ((spec_l1Up.f t165 1000000000).bind fun t167 => ((spec_l2Fit.f t166 t167).bind fun bt168 => (some (bt168.1, bt168.2.1, bt168.2.2)))) = some (r1, r2, r3) := H
    have A26 := Aside0.mk A260
    clear A260
    replace H := Option.bind_eq_some_iff.mp H
    obtain ⟨t167, A270, H⟩ := H
    replace H : ((spec_l2Fit.f t166 t167).bind fun bt168 => (some (bt168.1, bt168.2.1, bt168.2.2))) = some (r1, r2, r3) := H
    have A27 := Aside0.mk A270
    clear A270
    replace H := Option.bind_eq_some_iff.mp H
    obtain ⟨⟨t168, t169, t170⟩, A280, H⟩ := H
    replace H : (some (t168, t169, t170)) = some (r1, r2, r3) := H
    have A28 := Aside0.mk A280
    clear A280
    simp only [Option.some.injEq, Prod.mk.injEq] at H
    obtain ⟨rfl, rfl, rfl⟩ := H
    have hnb29 := NB159_160.out
    have hnc29 := NB160_159.out
    have hnb30 := NB159_161.out
    have hnc30 := NB161_159.out
    obtain ⟨hcz31_0, hcz31_1, hfz31_0, hfz31_1⟩ := cz2 BK159
    have hnb32 := NB160_161.out
    have hnc32 := NB161_160.out
    obtain ⟨hcz33_0, hcz33_1, hfz33_0, hfz33_1⟩ := cz2 BK160
    go_wp2_with (first | ((with_reducible refine gate_callee (f := 68) rfl ?_); refine gL 38 Try.func68 #[.int .i64 (wrap64 (a0_0 * a1_0)), .int .i64 (wrap64 (a0_0 * a1_1)), .int .i64 (wrap64 (a0_1 * a1_0)), .int .i64 (wrap64 (a0_1 * a1_1))] ?_; (with_reducible refine (spec_l2Four.calls (wrap64 (a0_0 * a1_0)) (wrap64 (a0_0 * a1_1)) (wrap64 (a0_1 * a1_0)) (wrap64 (a0_1 * a1_1)) t164 t165 _ A25.out).mono ?_); rintro e w34 ⟨rfl, hb⟩; refine ⟨_, rfl, ?_⟩; replace BK159 := bb (bk BK159) hb; replace BK160 := bb (bk BK160) hb; replace BK161 := bb (bk BK161) hb; replace HB := hbb (hs_ HB) hb; clear hb) | ((with_reducible refine gate_callee (f := 64) rfl ?_); refine gL 42 Try.func64 #[.int .i64 t164, .int .i64 1000000000] ?_; (with_reducible refine (spec_l1Down.calls t164 1000000000 t166 _ A26.out).mono ?_); rintro e w' ⟨rfl, ⟨nd, rfl⟩⟩; refine ⟨_, rfl, ?_⟩; (try (rw [drewN_self w34]; generalize hq_ : World.drewN w34 _ = w34; have n0_ : Aside0 (w34.heap[gb159]? = some (.cells #[.int .i64 a0_0, .int .i64 a0_1] 23 (0, 0))) := ⟨by rw [← hq_]; exact (bk BK159)⟩; have n1_ : Aside0 (w34.heap[gb160]? = some (.cells #[.int .i64 a1_0, .int .i64 a1_1] 23 (0, 0))) := ⟨by rw [← hq_]; exact (bk BK160)⟩; have n2_ : Aside0 (w34.heap[gb161]? = some (.cells #[.int .i64 0, .int .i64 0] 23 (0, 0))) := ⟨by rw [← hq_]; exact (bk BK161)⟩; have n3_ : Aside0 (Below w.heap.size w w34) := ⟨by rw [← hq_]; exact (hs_ HB)⟩; clear BK159 BK160 BK161 HB hq_; have BK159 := n0_; have BK160 := n1_; have BK161 := n2_; have HB := n3_; clear n0_ n1_ n2_ n3_))) | ((with_reducible refine gate_callee (f := 70) rfl ?_); refine gL 44 Try.func70 #[.int .i64 t165, .int .i64 1000000000] ?_; (with_reducible refine (spec_l1Up.calls t165 1000000000 t167 _ A27.out).mono ?_); rintro e w' ⟨rfl, ⟨nd, rfl⟩⟩; refine ⟨_, rfl, ?_⟩; (try (rw [drewN_self w34]; generalize hq_ : World.drewN w34 _ = w34; have n0_ : Aside0 (w34.heap[gb159]? = some (.cells #[.int .i64 a0_0, .int .i64 a0_1] 23 (0, 0))) := ⟨by rw [← hq_]; exact (bk BK159)⟩; have n1_ : Aside0 (w34.heap[gb160]? = some (.cells #[.int .i64 a1_0, .int .i64 a1_1] 23 (0, 0))) := ⟨by rw [← hq_]; exact (bk BK160)⟩; have n2_ : Aside0 (w34.heap[gb161]? = some (.cells #[.int .i64 0, .int .i64 0] 23 (0, 0))) := ⟨by rw [← hq_]; exact (bk BK161)⟩; have n3_ : Aside0 (Below w.heap.size w w34) := ⟨by rw [← hq_]; exact (hs_ HB)⟩; clear BK159 BK160 BK161 HB hq_; have BK159 := n0_; have BK160 := n1_; have BK161 := n2_; have HB := n3_; clear n0_ n1_ n2_ n3_))) | ((with_reducible refine gate_callee (f := 69) rfl ?_); refine gL 45 Try.func69 #[.int .i64 t166, .int .i64 t167] ?_; (with_reducible refine (spec_l2Fit.calls t166 t167 t168 t169 t170 _ A28.out).mono ?_); rintro e w35 ⟨rfl, hb⟩; refine ⟨_, rfl, ?_⟩; replace BK159 := bb (bk BK159) hb; replace BK160 := bb (bk BK160) hb; replace BK161 := bb (bk BK161) hb; replace HB := hbb (hs_ HB) hb; clear hb; obtain ⟨hcz36_0, hcz36_1, hfz36_0, hfz36_1⟩ := cz2 BK161))
    refine bodyPost_ret (results_ct rfl _ _ gb161 23 #[.int .i64 t168, .int .i64 t169] (0, 0) _ rfl (bkp BK161) Try.underlying23 rfl (by kernel_rfl)) rfl ?_
    exact ⟨by first | rfl | (simp [errW_none, errW_some] <;> rfl) | (simp [*, errW_none, errW_some] <;> rfl), hs_ HB⟩


/-! ### spec_l22Way: function 35 -/
def spec_l22Way.f (a0 : Int) (a1 : Int) : Option (Bool) := (spec_l6In.f a0 (-500000000) 500000000).bind fun t101 => (if t101 = true then ((spec_l6In.f a1 (-500000000) 500000000).bind fun t102 => (some t102)) else (some false))
set_option maxHeartbeats 8000000 in
set_option maxRecDepth 100000 in
theorem spec_l22Way.calls (a0 : Int) (a1 : Int) (r : Bool) (w : World) (h : spec_l22Way.f a0 a1 = some r) :
  Calls Try.prog 35 #[.int .i64 a0, .int .i64 a1] w fun e w' => e = .returned (.bool r) ∧ Drawn0 w w' := by
 have H : ((spec_l6In.f a0 (-500000000) 500000000).bind fun t101 => (if t101 = true then ((spec_l6In.f a1 (-500000000) 500000000).bind fun t102 => (some t102)) else (some false))) = some r := h
 clear h
 replace H := Option.bind_eq_some_iff.mp H
 obtain ⟨t101, A30, H⟩ := H
 replace H : (if t101 = true then ((spec_l6In.f a1 (-500000000) 500000000).bind fun t102 => (some t102)) else (some false)) = some r := H
 have A3 := Aside0.mk A30
 clear A30
 by_cases c4 : t101 = true
 ·subst c4
  have H1 : ((spec_l6In.f a1 (-500000000) 500000000).bind fun t102 => (some t102)) = some r := by rw [if_pos rfl] at H; exact H
  clear H
  have H := H1
  clear H1
  replace H := Option.bind_eq_some_iff.mp H
  obtain ⟨t102, A50, H⟩ := H
  replace H : (some t102) = some r := H
  have A5 := Aside0.mk A50
  clear A50
  obtain rfl := Option.some.inj H
  go_enter Try.func35, Try.ntmps35
  go_wp2_with (first | ((with_reducible refine gate_callee (f := 48) rfl ?_); refine gL 6 Try.func48 #[.int .i64 a0, .int .i64 (-500000000), .int .i64 500000000] ?_; (with_reducible refine (spec_l6In.calls a0 (-500000000) 500000000 true _ A3.out).mono ?_); rintro e w' ⟨rfl, ⟨nd, rfl⟩⟩; refine ⟨_, rfl, ?_⟩) | (go_at_call 48; (with_reducible refine (spec_l6In.calls a1 (-500000000) 500000000 t102 _ A5.out).mono ?_); rintro e w' ⟨rfl, ⟨nd, rfl⟩⟩))
  go_ret
  exact ⟨by first | rfl | (simp; done) | (simp [*]; done), by repeat (first | exact Drawn0.refl _ | apply Drawn0.step)⟩
 ·replace c4 := Bool.eq_false_iff.mpr c4
  subst c4
  have H1 : (some false) = some r := by rw [if_neg (show ¬ (false = true) by decide)] at H; exact H
  clear H
  have H := H1
  clear H1
  obtain rfl := Option.some.inj H
  go_enter Try.func35, Try.ntmps35
  go_wp2_with (first | ((with_reducible refine gate_callee (f := 48) rfl ?_); refine gL 6 Try.func48 #[.int .i64 a0, .int .i64 (-500000000), .int .i64 500000000] ?_; (with_reducible refine (spec_l6In.calls a0 (-500000000) 500000000 false _ A3.out).mono ?_); rintro e w' ⟨rfl, ⟨nd, rfl⟩⟩; refine ⟨_, rfl, ?_⟩))
  go_ret
  exact ⟨by first | rfl | (simp; done) | (simp [*]; done), by repeat (first | exact Drawn0.refl _ | apply Drawn0.step)⟩


/-! ### spec_TurnBy: function 15 -/
def spec_TurnBy.j0 : Nat → Int → Int → Int → Bool → Option (Int × Int × Int × Int × Bool)
 | 0, _, _, _, _ => none
 | k + 1, x0, x1, x2, x29 => if x29 = true then (some (0, 0, 0, 0, false)) else ((spec_l12Sine.f k (wrap64 (2 * x2))).bind fun bt175 => ((spec_l12Sine.f k (wrap64 ((wrap64 (2 * x2)) + 64800000))).bind fun bt178 => ((spec_SpanMul.f k x0 x0 bt178.1 bt178.2).bind fun bt183 => ((spec_SpanMul.f k x1 x1 bt175.1 bt175.2).bind fun bt187 => ((spec_SpanMul.f k x1 x1 bt178.1 bt178.2).bind fun bt191 => ((spec_SpanMul.f k x0 x0 bt175.1 bt175.2).bind fun bt195 => (some (wrap64 (bt183.1 + bt187.1), wrap64 (bt183.2.1 + bt187.2.1), wrap64 (bt191.1 - bt195.2.1), wrap64 (bt191.2.1 - bt195.1), true))))))))
def spec_TurnBy.f (k : Nat) (a0 : Int) (a1 : Int) (a2 : Int) : Option (Int × Int × Int × Int × Bool) := (spec_l22Way.f a0 a1).bind fun t173 => (if t173 = true then ((spec_l11Ok.f a2).bind fun t174 => (spec_TurnBy.j0 k a0 a1 a2 (!t174))) else (spec_TurnBy.j0 k a0 a1 a2 true))
theorem spec_TurnBy.mono_l : ∀ k, (∀ y0 y1 y2 y3, LeO (spec_TurnBy.j0 k y0 y1 y2 y3) (spec_TurnBy.j0 (k + 1) y0 y1 y2 y3))
 | 0 => fun _ _ _ _ r h => by simp [spec_TurnBy.j0] at h
 | k + 1 => by
  have ih0 := spec_TurnBy.mono_l k
  ·intro y0 y1 y2 y3
   unfold spec_TurnBy.j0
   repeat' first
   | (with_reducible exact ih0 _ _ _ _)
   | (with_reducible exact spec_SpanMul.mono _ _ _ _ _)
   | (with_reducible exact spec_l12Sine.mono _ _)
   | (with_reducible exact LeO.refl _)
   | (with_reducible exact LeO.none _)
   | (with_reducible refine LeO.ite ?_ ?_)
   | (with_reducible refine LeO.bind ?_ (fun _ => ?_))
   | exact ih0 _ _ _ _
   | exact spec_SpanMul.mono _ _ _ _ _
   | exact spec_l12Sine.mono _ _
   | exact LeO.none _
   | refine LeO.ite ?_ ?_
   | refine LeO.bind ?_ (fun _ => ?_)
theorem spec_TurnBy.mono : ∀ a0 a1 a2 k, LeO (spec_TurnBy.f k a0 a1 a2) (spec_TurnBy.f (k + 1) a0 a1 a2) := by
 intro a0 a1 a2 k
 have ih0 := spec_TurnBy.mono_l k
 unfold spec_TurnBy.f
 repeat' first
   | (with_reducible exact ih0 _ _ _ _)
   | (with_reducible exact spec_SpanMul.mono _ _ _ _ _)
   | (with_reducible exact spec_l12Sine.mono _ _)
   | (with_reducible exact LeO.refl _)
   | (with_reducible exact LeO.none _)
   | (with_reducible refine LeO.ite ?_ ?_)
   | (with_reducible refine LeO.bind ?_ (fun _ => ?_))
   | exact ih0 _ _ _ _
   | exact spec_SpanMul.mono _ _ _ _ _
   | exact spec_l12Sine.mono _ _
   | exact LeO.none _
   | refine LeO.ite ?_ ?_
   | refine LeO.bind ?_ (fun _ => ?_)
def spec_TurnBy.T11 : Bool × List (List Nat × List Nat) := (true, [([], []), ([0], [0]), ([], []), ([2], [2]), ([1, 3], [1, 3]), ([], []), ([5], [5]), ([], []), ([7], [7]), ([6, 8], [6, 8]), ([4, 9], [4, 9]), ([], []), ([11], [11]), ([], []), ([13], [13]), ([12, 14], [12, 14]), ([], []), ([16], [16]), ([], []), ([18], [18]), ([17, 19], [17, 19]), ([15, 20], [15, 20]), ([10, 0, 1, 2, 3, 4, 5, 6, 7, 8, 9, 10], [10]), ([21, 22, 0, 1, 2, 3, 4, 5, 6, 7, 8, 9, 10, 11, 12, 13, 14, 15, 16, 17, 18, 19, 20, 21, 22], [21]), ([23, 0, 1, 2, 3, 4, 5, 6, 7, 8, 9, 10, 11, 12, 13, 14, 15, 16, 17, 18, 19, 20, 21, 22, 23], [])])
def spec_TurnBy.B11 : List Nat := [0, 1, 0, 4, 15, 0, 32, 0, 128, 480, 1023, 0, 2048, 0, 8192, 30720, 0, 65536, 0, 262144, 983040, 2095104, 2047, 8388607, 16777215]
theorem spec_TurnBy.tab11 : rtab .any (opsOf Try.f15 11) = spec_TurnBy.T11 := by kernel_rfl
theorem spec_TurnBy.bits11 : waitsOk spec_TurnBy.T11.2 spec_TurnBy.B11 = true := by kernel_rfl
set_option maxHeartbeats 8000000 in
set_option maxRecDepth 100000 in
theorem spec_TurnBy.calls (k : Nat) (a0 : Int) (a1 : Int) (a2 : Int) (r1 : Int) (r2 : Int) (r3 : Int) (r4 : Int) (r5 : Bool) (w : World) (h : spec_TurnBy.f k a0 a1 a2 = some (r1, r2, r3, r4, r5)) :
  Calls Try.prog 15 #[.int .i64 a0, .int .i64 a1, .int .i64 a2] w fun e w' => e = .returned (.tuple #[.agg #[.int .i64 r1, .int .i64 r2], .agg #[.int .i64 r3, .int .i64 r4], .bool r5]) ∧ Below w.heap.size w w' := by
 have hu23 := Try.underlying23
 have HB := Aside0.mk (Below.refl w.heap.size w)
 have H : ((spec_l22Way.f a0 a1).bind fun t173 => (if t173 = true then ((spec_l11Ok.f a2).bind fun t174 => (spec_TurnBy.j0 k a0 a1 a2 (!t174))) else (spec_TurnBy.j0 k a0 a1 a2 true))) = some (r1, r2, r3, r4, r5) := h
 clear h
 have HC4 := Aside0.mk H
 clear H
 go_enter Try.func15, Try.ntmps15
 go_upto_region 1 with (first | ((with_reducible refine gate_dst (N := 6) rfl ?_); refine bE 6 #[.int .i64 0, .int .i64 0] 23 ?_; intro gb171 hg w5 hbox hb; have BK171 := Aside0.mk (hbox); have GE171 := gw hg (h0_ HB); have GW171 := GE171; replace HB := hbb (h0_ HB) hb; clear hb hbox hg) | ((with_reducible refine gate_dst (N := 7) rfl ?_); refine bE 7 #[.int .i64 0, .int .i64 0] 23 ?_; intro gb172 hg w6 hbox hb; have BK172 := Aside0.mk (hbox); have GE172 := gw hg (hs_ HB); have GW172 := GE172; have NB171_172 := nl hg (bk BK171); have NB172_171 := ng hg (bk BK171); replace BK171 := bb (bk BK171) hb; replace HB := hbb (hs_ HB) hb; clear hb hbox hg))
 (try simp only [Act.put, List.setIfInBounds_toArray, List.set_cons_zero, List.set_cons_succ])
 go_cut [29] (fun v29 wc => ∃ (kq : Nat) (x29_3 : Bool), v29 = .bool x29_3 ∧ Aside0 (spec_TurnBy.j0 kq a0 a1 a2 x29_3 = some (r1, r2, r3, r4, r5)) ∧ Aside0 (kq ≤ k) ∧ Aside0 (wc.heap[gb171]? = some (.cells #[.int .i64 0, .int .i64 0] 23 (0, 0))) ∧ Aside0 (wc.heap[gb172]? = some (.cells #[.int .i64 0, .int .i64 0] 23 (0, 0))) ∧ Aside0 (Below w.heap.size w wc))
 case first =>
  have H := HC4.out
  clear HC4
  replace H := Option.bind_eq_some_iff.mp H
  obtain ⟨t173, A70, H⟩ := H
  replace H : (if t173 = true then ((spec_l11Ok.f a2).bind fun t174 => (spec_TurnBy.j0 k a0 a1 a2 (!t174))) else (spec_TurnBy.j0 k a0 a1 a2 true)) = some (r1, r2, r3, r4, r5) := H
  have A7 := Aside0.mk A70
  clear A70
  by_cases c8 : t173 = true
  ·subst c8
   have H1 : ((spec_l11Ok.f a2).bind fun t174 => (spec_TurnBy.j0 k a0 a1 a2 (!t174))) = some (r1, r2, r3, r4, r5) := by rw [if_pos rfl] at H; exact H
   clear H
   have H := H1
   clear H1
   replace H := Option.bind_eq_some_iff.mp H
   obtain ⟨t174, A90, H⟩ := H
   replace H : (spec_TurnBy.j0 k a0 a1 a2 (!t174)) = some (r1, r2, r3, r4, r5) := H
   have A9 := Aside0.mk A90
   clear A90
   have H' := Aside0.mk H
   clear H
   go_wp2_with (first | ((with_reducible refine gate_callee (f := 35) rfl ?_); refine gL 23 Try.func35 #[.int .i64 a0, .int .i64 a1] ?_; (with_reducible refine (spec_l22Way.calls a0 a1 true _ A7.out).mono ?_); rintro e w' ⟨rfl, ⟨nd, rfl⟩⟩; refine ⟨_, rfl, ?_⟩) | (go_at_call 36; (with_reducible refine (spec_l11Ok.calls a2 t174 _ A9.out).mono ?_); rintro e w' ⟨rfl, ⟨nd, rfl⟩⟩))
   go_meet
   case rel => exact ⟨_, (!t174), (by first | rfl | (simp; done) | (simp [*]; done)), H', ⟨by first | omega | exact Nat.le_refl _⟩, ⟨bk BK171⟩, ⟨bk BK172⟩, ⟨hs_ HB⟩⟩
  ·replace c8 := Bool.eq_false_iff.mpr c8
   subst c8
   have H1 : (spec_TurnBy.j0 k a0 a1 a2 true) = some (r1, r2, r3, r4, r5) := by rw [if_neg (show ¬ (false = true) by decide)] at H; exact H
   clear H
   have H := H1
   clear H1
   have H' := Aside0.mk H
   clear H
   go_wp2_with (first | ((with_reducible refine gate_callee (f := 35) rfl ?_); refine gL 23 Try.func35 #[.int .i64 a0, .int .i64 a1] ?_; (with_reducible refine (spec_l22Way.calls a0 a1 false _ A7.out).mono ?_); rintro e w' ⟨rfl, ⟨nd, rfl⟩⟩; refine ⟨_, rfl, ?_⟩))
   go_meet
   case rel => exact ⟨_, (true), (by first | rfl | (simp; done) | (simp [*]; done)), H', ⟨by first | omega | exact Nat.le_refl _⟩, ⟨bk BK171⟩, ⟨bk BK172⟩, ⟨hs_ HB⟩⟩
 case rest =>
  clear HC4
  try clear c1
  try clear p2
  try clear c3
  try clear c8
  obtain ⟨kq, x29_3, rfl, HA, HJ3, BK171, BK172, HB⟩ := hcut
  cases kq with
  | zero => exact absurd HA.out (by simp [spec_TurnBy.j0])
  | succ kj3 =>
   have H := HA.out
   clear HA
   simp only [spec_TurnBy.j0] at H
   by_cases c10 : x29_3 = true
   ·subst c10
    have H1 : (some (0, 0, 0, 0, false)) = some (r1, r2, r3, r4, r5) := by rw [if_pos rfl] at H; exact H
    clear H
    have H := H1
    clear H1
    simp only [Option.some.injEq, Prod.mk.injEq] at H
    obtain ⟨rfl, rfl, rfl, rfl, rfl⟩ := H
    have hnb11 := NB171_172.out
    have hnc11 := NB172_171.out
    obtain ⟨hcz12_0, hcz12_1, hfz12_0, hfz12_1⟩ := cz2 BK171
    obtain ⟨hcz13_0, hcz13_1, hfz13_0, hfz13_1⟩ := cz2 BK172
    go_wp2
    refine bodyPost_ret (results_list (rs := [.cell 6 23, .cell 7 23, .tmp 8]) rfl (by simp) (.cell gb171 23 #[.int .i64 0, .int .i64 0] (0, 0) _ rfl (bkp BK171) Try.underlying23 rfl (by kernel_rfl) (.cell gb172 23 #[.int .i64 0, .int .i64 0] (0, 0) _ rfl (bkp BK172) Try.underlying23 rfl (by kernel_rfl) (.tmp .nil)))) rfl ?_
    exact ⟨by first | rfl | (simp [errW_none, errW_some] <;> rfl) | (simp [*, errW_none, errW_some] <;> rfl), hs_ HB⟩
   ·replace c10 := Bool.eq_false_iff.mpr c10
    subst c10
    have H1 : ((spec_l12Sine.f kj3 (wrap64 (2 * a2))).bind fun bt175 => ((spec_l12Sine.f kj3 (wrap64 ((wrap64 (2 * a2)) + 64800000))).bind fun bt178 => ((spec_SpanMul.f kj3 a0 a0 bt178.1 bt178.2).bind fun bt183 => ((spec_SpanMul.f kj3 a1 a1 bt175.1 bt175.2).bind fun bt187 => ((spec_SpanMul.f kj3 a1 a1 bt178.1 bt178.2).bind fun bt191 => ((spec_SpanMul.f kj3 a0 a0 bt175.1 bt175.2).bind fun bt195 => (some (wrap64 (bt183.1 + bt187.1), wrap64 (bt183.2.1 + bt187.2.1), wrap64 (bt191.1 - bt195.2.1), wrap64 (bt191.2.1 - bt195.1), true)))))))) = some (r1, r2, r3, r4, r5) := by rw [if_neg (show ¬ (false = true) by decide)] at H; exact H
    clear H
    have H := H1
    clear H1
    replace H := Option.bind_eq_some_iff.mp H
    obtain ⟨⟨t175, t176⟩, A140, H⟩ := H
    replace H : ((spec_l12Sine.f kj3 (wrap64 ((wrap64 (2 * a2)) + 64800000))).bind fun bt178 => ((spec_SpanMul.f kj3 a0 a0 bt178.1 bt178.2).bind fun bt183 => ((spec_SpanMul.f kj3 a1 a1 t175 t176).bind fun bt187 => ((spec_SpanMul.f kj3 a1 a1 bt178.1 bt178.2).bind fun bt191 => ((spec_SpanMul.f kj3 a0 a0 t175 t176).bind fun bt195 => (some (wrap64 (bt183.1 + bt187.1), wrap64 (bt183.2.1 + bt187.2.1), wrap64 (bt191.1 - bt195.2.1), wrap64 (bt191.2.1 - bt195.1), true))))))) = some (r1, r2, r3, r4, r5) := H
    have A14 := Aside0.mk A140
    clear A140
    replace H := Option.bind_eq_some_iff.mp H
    obtain ⟨⟨t178, t179⟩, A150, H⟩ := H
    replace H : ((spec_SpanMul.f kj3 a0 a0 t178 t179).bind fun bt183 => ((spec_SpanMul.f kj3 a1 a1 t175 t176).bind fun bt187 => ((spec_SpanMul.f kj3 a1 a1 t178 t179).bind fun bt191 => ((spec_SpanMul.f kj3 a0 a0 t175 t176).bind fun bt195 => (some (wrap64 (bt183.1 + bt187.1), wrap64 (bt183.2.1 + bt187.2.1), wrap64 (bt191.1 - bt195.2.1), wrap64 (bt191.2.1 - bt195.1), true)))))) = some (r1, r2, r3, r4, r5) := H
    have A15 := Aside0.mk A150
    clear A150
    replace H := Option.bind_eq_some_iff.mp H
    obtain ⟨⟨t183, t184, t185⟩, A160, H⟩ := H
    replace H : ((spec_SpanMul.f kj3 a1 a1 t175 t176).bind fun bt187 => ((spec_SpanMul.f kj3 a1 a1 t178 t179).bind fun bt191 => ((spec_SpanMul.f kj3 a0 a0 t175 t176).bind fun bt195 => (some (wrap64 (t183 + bt187.1), wrap64 (t184 + bt187.2.1), wrap64 (bt191.1 - bt195.2.1), wrap64 (bt191.2.1 - bt195.1), true))))) = some (r1, r2, r3, r4, r5) := H
    have A16 := Aside0.mk A160
    clear A160
    replace H := Option.bind_eq_some_iff.mp H
    obtain ⟨⟨t187, t188, t189⟩, A170, H⟩ := H
    replace H : ((spec_SpanMul.f kj3 a1 a1 t178 t179).bind fun bt191 => ((spec_SpanMul.f kj3 a0 a0 t175 t176).bind fun bt195 => (some (wrap64 (t183 + t187), wrap64 (t184 + t188), wrap64 (bt191.1 - bt195.2.1), wrap64 (bt191.2.1 - bt195.1), true)))) = some (r1, r2, r3, r4, r5) := H
    have A17 := Aside0.mk A170
    clear A170
    replace H := Option.bind_eq_some_iff.mp H
    obtain ⟨⟨t191, t192, t193⟩, A180, H⟩ := H
    replace H : ((spec_SpanMul.f kj3 a0 a0 t175 t176).bind fun bt195 => (some (wrap64 (t183 + t187), wrap64 (t184 + t188), wrap64 (t191 - bt195.2.1), wrap64 (t192 - bt195.1), true))) = some (r1, r2, r3, r4, r5) := H
    have A18 := Aside0.mk A180
    clear A180
    replace H := Option.bind_eq_some_iff.mp H
    obtain ⟨⟨t195, t196, t197⟩, A190, H⟩ := H
    replace H : (some (wrap64 (t183 + t187), wrap64 (t184 + t188), wrap64 (t191 - t196), wrap64 (t192 - t195), true)) = some (r1, r2, r3, r4, r5) := H
    have A19 := Aside0.mk A190
    clear A190
    simp only [Option.some.injEq, Prod.mk.injEq] at H
    obtain ⟨rfl, rfl, rfl, rfl, rfl⟩ := H
    try go_wp2_with (first | ((with_reducible refine gate_callee (f := 37) rfl ?_); refine gL 34 Try.func37 #[.int .i64 (wrap64 (2 * a2))] ?_; (with_reducible refine (spec_l12Sine.calls kj3 (wrap64 (2 * a2)) t175 t176 _ A14.out).mono ?_); rintro e w20 ⟨rfl, hb⟩; refine ⟨_, rfl, ?_⟩; replace BK171 := bb (bk BK171) hb; replace BK172 := bb (bk BK172) hb; replace HB := hbb (hs_ HB) hb; clear hb) | ((with_reducible refine gate_dst (N := 9) rfl ?_); refine bE 9 #[.int .i64 0, .int .i64 0] 23 ?_; intro gb177 hg w21 hbox hb; have BK177 := Aside0.mk (hbox); have GE177 := gw hg (hs_ HB); have GW177 := GE177; have NB171_177 := nl hg (bk BK171); have NB177_171 := ng hg (bk BK171); have NB172_177 := nl hg (bk BK172); have NB177_172 := ng hg (bk BK172); replace BK171 := bb (bk BK171) hb; replace BK172 := bb (bk BK172) hb; replace HB := hbb (hs_ HB) hb; clear hb hbox hg; have hnb22 := NB177_171.out; have hnc22 := NB171_177.out; have hnb23 := NB177_172.out; have hnc23 := NB172_177.out; obtain ⟨hcz24_0, hcz24_1, hfz24_0, hfz24_1⟩ := cz2 BK177) | ((with_reducible refine gate_callee (f := 37) rfl ?_); refine gL 38 Try.func37 #[.int .i64 (wrap64 ((wrap64 (2 * a2)) + 64800000))] ?_; (with_reducible refine (spec_l12Sine.calls kj3 (wrap64 ((wrap64 (2 * a2)) + 64800000)) t178 t179 _ A15.out).mono ?_); rintro e w25 ⟨rfl, hb⟩; refine ⟨_, rfl, ?_⟩; replace BK171 := bb (bk1 BK171 NB171_177) hb; replace BK172 := bb (bk1 BK172 NB172_177) hb; replace BK177 := bb (o := .cells #[.int .i64 t175, .int .i64 t176] 23 (0, 0)) (bkp BK177) hb; replace HB := hbb (hs_ HB) hb; clear hb) | ((with_reducible refine gate_dst (N := 10) rfl ?_); refine bE 10 #[.int .i64 0, .int .i64 0] 23 ?_; intro gb180 hg w26 hbox hb; have BK180 := Aside0.mk (hbox); have GE180 := gw hg (hs_ HB); have GW180 := GE180; have NB171_180 := nl hg (bk BK171); have NB180_171 := ng hg (bk BK171); have NB172_180 := nl hg (bk BK172); have NB180_172 := ng hg (bk BK172); have NB177_180 := nl hg (bk BK177); have NB180_177 := ng hg (bk BK177); replace BK171 := bb (bk BK171) hb; replace BK172 := bb (bk BK172) hb; replace BK177 := bb (bk BK177) hb; replace HB := hbb (hs_ HB) hb; clear hb hbox hg; have hnb27 := NB180_171.out; have hnc27 := NB171_180.out; have hnb28 := NB180_172.out; have hnc28 := NB172_180.out; have hnb29 := NB180_177.out; have hnc29 := NB177_180.out; obtain ⟨hcz30_0, hcz30_1, hfz30_0, hfz30_1⟩ := cz2 BK180) | ((with_reducible refine gate_dst (N := 11) rfl ?_); refine bE 11 #[.int .i64 0, .int .i64 0] 23 ?_; intro gb181 hg w31 hbox hb; have BK181 := Aside0.mk (hbox); have GE181 := gw hg (hs_ HB); have GW181 := GE181; have NB171_181 := nl hg (bk1 BK171 NB171_180); have NB181_171 := ng hg (bk1 BK171 NB171_180); have NB172_181 := nl hg (bk1 BK172 NB172_180); have NB181_172 := ng hg (bk1 BK172 NB172_180); have NB177_181 := nl hg (bk1 BK177 NB177_180); have NB181_177 := ng hg (bk1 BK177 NB177_180); have NB180_181 := Aside0.mk ((by rw [hg]; exact Nat.ne_of_lt (blk_lt (g := gb180) (o := .cells #[.int .i64 t178, .int .i64 t179] 23 (0, 0)) (bkp BK180)) : gb180 ≠ gb181)); have NB181_180 := Aside0.mk ((by rw [hg]; exact Nat.ne_of_gt (blk_lt (g := gb180) (o := .cells #[.int .i64 t178, .int .i64 t179] 23 (0, 0)) (bkp BK180)) : gb181 ≠ gb180)); replace BK171 := bb (bk1 BK171 NB171_180) hb; replace BK172 := bb (bk1 BK172 NB172_180) hb; replace BK177 := bb (bk1 BK177 NB177_180) hb; replace BK180 := bb (o := .cells #[.int .i64 t178, .int .i64 t179] 23 (0, 0)) (bkp BK180) hb; replace HB := hbb (hs_ HB) hb; clear hb hbox hg; have hnb32 := NB181_171.out; have hnc32 := NB171_181.out; have hnb33 := NB181_172.out; have hnc33 := NB172_181.out; have hnb34 := NB181_177.out; have hnc34 := NB177_181.out; have hnb35 := NB181_180.out; have hnc35 := NB180_181.out; obtain ⟨hcz36_0, hcz36_1, hfz36_0, hfz36_1⟩ := cz2 BK181) | ((with_reducible refine gate_dst (N := 12) rfl ?_); refine bE 12 #[.int .i64 0, .int .i64 0] 23 ?_; intro gb182 hg w37 hbox hb; have BK182 := Aside0.mk (hbox); have GE182 := gw hg (hs_ HB); have GW182 := GE182; have NB171_182 := nl hg (bk1 BK171 NB171_181); have NB182_171 := ng hg (bk1 BK171 NB171_181); have NB172_182 := nl hg (bk1 BK172 NB172_181); have NB182_172 := ng hg (bk1 BK172 NB172_181); have NB177_182 := nl hg (bk1 BK177 NB177_181); have NB182_177 := ng hg (bk1 BK177 NB177_181); have NB180_182 := nl hg (bk1 BK180 NB180_181); have NB182_180 := ng hg (bk1 BK180 NB180_181); have NB181_182 := Aside0.mk ((by rw [hg]; exact Nat.ne_of_lt (blk_lt (g := gb181) (o := .cells #[.int .i64 a0, .int .i64 a0] 23 (0, 0)) (bkp BK181)) : gb181 ≠ gb182)); have NB182_181 := Aside0.mk ((by rw [hg]; exact Nat.ne_of_gt (blk_lt (g := gb181) (o := .cells #[.int .i64 a0, .int .i64 a0] 23 (0, 0)) (bkp BK181)) : gb182 ≠ gb181)); replace BK171 := bb (bk1 BK171 NB171_181) hb; replace BK172 := bb (bk1 BK172 NB172_181) hb; replace BK177 := bb (bk1 BK177 NB177_181) hb; replace BK180 := bb (bk1 BK180 NB180_181) hb; replace BK181 := bb (o := .cells #[.int .i64 a0, .int .i64 a0] 23 (0, 0)) (bkp BK181) hb; replace HB := hbb (hs_ HB) hb; clear hb hbox hg; have hnb38 := NB182_171.out; have hnc38 := NB171_182.out; have hnb39 := NB182_172.out; have hnc39 := NB172_182.out; have hnb40 := NB182_177.out; have hnc40 := NB177_182.out; have hnb41 := NB182_180.out; have hnc41 := NB180_182.out; have hnb42 := NB182_181.out; have hnc42 := NB181_182.out; obtain ⟨hcz43_0, hcz43_1, hfz43_0, hfz43_1⟩ := cz2 BK182; obtain ⟨hcz44_0, hcz44_1, hfz44_0, hfz44_1⟩ := cz2 BK181; obtain ⟨hcz45_0, hcz45_1, hfz45_0, hfz45_1⟩ := cz2 BK180) | ((with_reducible refine gate_callee (f := 38) rfl ?_); refine gL 48 Try.func38 #[.agg #[.int .i64 a0, .int .i64 a0], .agg #[.int .i64 t178, .int .i64 t179]] ?_; (with_reducible refine (spec_SpanMul.calls kj3 a0 a0 t178 t179 t183 t184 t185 _ A16.out).mono ?_); rintro e w46 ⟨rfl, hb⟩; refine ⟨_, rfl, ?_⟩; replace BK171 := bb (bk1 BK171 NB171_182) hb; replace BK172 := bb (bk1 BK172 NB172_182) hb; replace BK177 := bb (bk1 BK177 NB177_182) hb; replace BK180 := bb (bk1 BK180 NB180_182) hb; replace BK181 := bb (bk1 BK181 NB181_182) hb; replace BK182 := bb (o := .cells #[.int .i64 a1, .int .i64 a1] 23 (0, 0)) (bkp BK182) hb; replace HB := hbb (hs_ HB) hb; clear hb) | ((with_reducible refine gate_dst (N := 13) rfl ?_); refine bE 13 #[.int .i64 0, .int .i64 0] 23 ?_; intro gb186 hg w47 hbox hb; have BK186 := Aside0.mk (hbox); have GE186 := gw hg (hs_ HB); have GW186 := GE186; have NB171_186 := nl hg (bk BK171); have NB186_171 := ng hg (bk BK171); have NB172_186 := nl hg (bk BK172); have NB186_172 := ng hg (bk BK172); have NB177_186 := nl hg (bk BK177); have NB186_177 := ng hg (bk BK177); have NB180_186 := nl hg (bk BK180); have NB186_180 := ng hg (bk BK180); have NB181_186 := nl hg (bk BK181); have NB186_181 := ng hg (bk BK181); have NB182_186 := nl hg (bk BK182); have NB186_182 := ng hg (bk BK182); replace BK171 := bb (bk BK171) hb; replace BK172 := bb (bk BK172) hb; replace BK177 := bb (bk BK177) hb; replace BK180 := bb (bk BK180) hb; replace BK181 := bb (bk BK181) hb; replace BK182 := bb (bk BK182) hb; replace HB := hbb (hs_ HB) hb; clear hb hbox hg; have hnb48 := NB186_171.out; have hnc48 := NB171_186.out; have hnb49 := NB186_172.out; have hnc49 := NB172_186.out; have hnb50 := NB186_177.out; have hnc50 := NB177_186.out; have hnb51 := NB186_180.out; have hnc51 := NB180_186.out; have hnb52 := NB186_181.out; have hnc52 := NB181_186.out; have hnb53 := NB186_182.out; have hnc53 := NB182_186.out; obtain ⟨hcz54_0, hcz54_1, hfz54_0, hfz54_1⟩ := cz2 BK186; obtain ⟨hcz55_0, hcz55_1, hfz55_0, hfz55_1⟩ := cz2 BK182; obtain ⟨hcz56_0, hcz56_1, hfz56_0, hfz56_1⟩ := cz2 BK177) | ((with_reducible refine gate_callee (f := 38) rfl ?_); refine gL 54 Try.func38 #[.agg #[.int .i64 a1, .int .i64 a1], .agg #[.int .i64 t175, .int .i64 t176]] ?_; (with_reducible refine (spec_SpanMul.calls kj3 a1 a1 t175 t176 t187 t188 t189 _ A17.out).mono ?_); rintro e w57 ⟨rfl, hb⟩; refine ⟨_, rfl, ?_⟩; replace BK171 := bb (bk1 BK171 NB171_186) hb; replace BK172 := bb (bk1 BK172 NB172_186) hb; replace BK177 := bb (bk1 BK177 NB177_186) hb; replace BK180 := bb (bk1 BK180 NB180_186) hb; replace BK181 := bb (bk1 BK181 NB181_186) hb; replace BK182 := bb (bk1 BK182 NB182_186) hb; replace BK186 := bb (o := .cells #[.int .i64 t183, .int .i64 t184] 23 (0, 0)) (bkp BK186) hb; replace HB := hbb (hs_ HB) hb; clear hb) | ((with_reducible refine gate_dst (N := 15) rfl ?_); refine bE 15 #[.int .i64 0, .int .i64 0] 23 ?_; intro gb190 hg w58 hbox hb; have BK190 := Aside0.mk (hbox); have GE190 := gw hg (hs_ HB); have GW190 := GE190; have NB171_190 := nl hg (bk BK171); have NB190_171 := ng hg (bk BK171); have NB172_190 := nl hg (bk BK172); have NB190_172 := ng hg (bk BK172); have NB177_190 := nl hg (bk BK177); have NB190_177 := ng hg (bk BK177); have NB180_190 := nl hg (bk BK180); have NB190_180 := ng hg (bk BK180); have NB181_190 := nl hg (bk BK181); have NB190_181 := ng hg (bk BK181); have NB182_190 := nl hg (bk BK182); have NB190_182 := ng hg (bk BK182); have NB186_190 := nl hg (bk BK186); have NB190_186 := ng hg (bk BK186); replace BK171 := bb (bk BK171) hb; replace BK172 := bb (bk BK172) hb; replace BK177 := bb (bk BK177) hb; replace BK180 := bb (bk BK180) hb; replace BK181 := bb (bk BK181) hb; replace BK182 := bb (bk BK182) hb; replace BK186 := bb (bk BK186) hb; replace HB := hbb (hs_ HB) hb; clear hb hbox hg; have hnb59 := NB190_171.out; have hnc59 := NB171_190.out; have hnb60 := NB190_172.out; have hnc60 := NB172_190.out; have hnb61 := NB190_177.out; have hnc61 := NB177_190.out; have hnb62 := NB190_180.out; have hnc62 := NB180_190.out; have hnb63 := NB190_181.out; have hnc63 := NB181_190.out; have hnb64 := NB190_182.out; have hnc64 := NB182_190.out; have hnb65 := NB190_186.out; have hnc65 := NB186_190.out; obtain ⟨hcz66_0, hcz66_1, hfz66_0, hfz66_1⟩ := cz2 BK190; obtain ⟨hcz67_0, hcz67_1, hfz67_0, hfz67_1⟩ := cz2 BK182; obtain ⟨hcz68_0, hcz68_1, hfz68_0, hfz68_1⟩ := cz2 BK180) | ((with_reducible refine gate_callee (f := 38) rfl ?_); refine gL 60 Try.func38 #[.agg #[.int .i64 a1, .int .i64 a1], .agg #[.int .i64 t178, .int .i64 t179]] ?_; (with_reducible refine (spec_SpanMul.calls kj3 a1 a1 t178 t179 t191 t192 t193 _ A18.out).mono ?_); rintro e w69 ⟨rfl, hb⟩; refine ⟨_, rfl, ?_⟩; replace BK171 := bb (bk1 BK171 NB171_190) hb; replace BK172 := bb (bk1 BK172 NB172_190) hb; replace BK177 := bb (bk1 BK177 NB177_190) hb; replace BK180 := bb (bk1 BK180 NB180_190) hb; replace BK181 := bb (bk1 BK181 NB181_190) hb; replace BK182 := bb (bk1 BK182 NB182_190) hb; replace BK186 := bb (bk1 BK186 NB186_190) hb; replace BK190 := bb (o := .cells #[.int .i64 t187, .int .i64 t188] 23 (0, 0)) (bkp BK190) hb; replace HB := hbb (hs_ HB) hb; clear hb) | ((with_reducible refine gate_dst (N := 17) rfl ?_); refine bE 17 #[.int .i64 0, .int .i64 0] 23 ?_; intro gb194 hg w70 hbox hb; have BK194 := Aside0.mk (hbox); have GE194 := gw hg (hs_ HB); have GW194 := GE194; have NB171_194 := nl hg (bk BK171); have NB194_171 := ng hg (bk BK171); have NB172_194 := nl hg (bk BK172); have NB194_172 := ng hg (bk BK172); have NB177_194 := nl hg (bk BK177); have NB194_177 := ng hg (bk BK177); have NB180_194 := nl hg (bk BK180); have NB194_180 := ng hg (bk BK180); have NB181_194 := nl hg (bk BK181); have NB194_181 := ng hg (bk BK181); have NB182_194 := nl hg (bk BK182); have NB194_182 := ng hg (bk BK182); have NB186_194 := nl hg (bk BK186); have NB194_186 := ng hg (bk BK186); have NB190_194 := nl hg (bk BK190); have NB194_190 := ng hg (bk BK190); replace BK171 := bb (bk BK171) hb; replace BK172 := bb (bk BK172) hb; replace BK177 := bb (bk BK177) hb; replace BK180 := bb (bk BK180) hb; replace BK181 := bb (bk BK181) hb; replace BK182 := bb (bk BK182) hb; replace BK186 := bb (bk BK186) hb; replace BK190 := bb (bk BK190) hb; replace HB := hbb (hs_ HB) hb; clear hb hbox hg; have hnb71 := NB194_171.out; have hnc71 := NB171_194.out; have hnb72 := NB194_172.out; have hnc72 := NB172_194.out; have hnb73 := NB194_177.out; have hnc73 := NB177_194.out; have hnb74 := NB194_180.out; have hnc74 := NB180_194.out; have hnb75 := NB194_181.out; have hnc75 := NB181_194.out; have hnb76 := NB194_182.out; have hnc76 := NB182_194.out; have hnb77 := NB194_186.out; have hnc77 := NB186_194.out; have hnb78 := NB194_190.out; have hnc78 := NB190_194.out; obtain ⟨hcz79_0, hcz79_1, hfz79_0, hfz79_1⟩ := cz2 BK194; obtain ⟨hcz80_0, hcz80_1, hfz80_0, hfz80_1⟩ := cz2 BK181; obtain ⟨hcz81_0, hcz81_1, hfz81_0, hfz81_1⟩ := cz2 BK177) | ((with_reducible refine gate_callee (f := 38) rfl ?_); refine gL 66 Try.func38 #[.agg #[.int .i64 a0, .int .i64 a0], .agg #[.int .i64 t175, .int .i64 t176]] ?_; (with_reducible refine (spec_SpanMul.calls kj3 a0 a0 t175 t176 t195 t196 t197 _ A19.out).mono ?_); rintro e w82 ⟨rfl, hb⟩; refine ⟨_, rfl, ?_⟩; replace BK171 := bb (bk1 BK171 NB171_194) hb; replace BK172 := bb (bk1 BK172 NB172_194) hb; replace BK177 := bb (bk1 BK177 NB177_194) hb; replace BK180 := bb (bk1 BK180 NB180_194) hb; replace BK181 := bb (bk1 BK181 NB181_194) hb; replace BK182 := bb (bk1 BK182 NB182_194) hb; replace BK186 := bb (bk1 BK186 NB186_194) hb; replace BK190 := bb (bk1 BK190 NB190_194) hb; replace BK194 := bb (o := .cells #[.int .i64 t191, .int .i64 t192] 23 (0, 0)) (bkp BK194) hb; replace HB := hbb (hs_ HB) hb; clear hb) | ((with_reducible refine gate_dst (N := 19) rfl ?_); refine bE 19 #[.int .i64 0, .int .i64 0] 23 ?_; intro gb198 hg w83 hbox hb; have BK198 := Aside0.mk (hbox); have GE198 := gw hg (hs_ HB); have GW198 := GE198; have NB171_198 := nl hg (bk BK171); have NB198_171 := ng hg (bk BK171); have NB172_198 := nl hg (bk BK172); have NB198_172 := ng hg (bk BK172); have NB177_198 := nl hg (bk BK177); have NB198_177 := ng hg (bk BK177); have NB180_198 := nl hg (bk BK180); have NB198_180 := ng hg (bk BK180); have NB181_198 := nl hg (bk BK181); have NB198_181 := ng hg (bk BK181); have NB182_198 := nl hg (bk BK182); have NB198_182 := ng hg (bk BK182); have NB186_198 := nl hg (bk BK186); have NB198_186 := ng hg (bk BK186); have NB190_198 := nl hg (bk BK190); have NB198_190 := ng hg (bk BK190); have NB194_198 := nl hg (bk BK194); have NB198_194 := ng hg (bk BK194); replace BK171 := bb (bk BK171) hb; replace BK172 := bb (bk BK172) hb; replace BK177 := bb (bk BK177) hb; replace BK180 := bb (bk BK180) hb; replace BK181 := bb (bk BK181) hb; replace BK182 := bb (bk BK182) hb; replace BK186 := bb (bk BK186) hb; replace BK190 := bb (bk BK190) hb; replace BK194 := bb (bk BK194) hb; replace HB := hbb (hs_ HB) hb; clear hb hbox hg; have hnb84 := NB198_171.out; have hnc84 := NB171_198.out; have hnb85 := NB198_172.out; have hnc85 := NB172_198.out; have hnb86 := NB198_177.out; have hnc86 := NB177_198.out; have hnb87 := NB198_180.out; have hnc87 := NB180_198.out; have hnb88 := NB198_181.out; have hnc88 := NB181_198.out; have hnb89 := NB198_182.out; have hnc89 := NB182_198.out; have hnb90 := NB198_186.out; have hnc90 := NB186_198.out; have hnb91 := NB198_190.out; have hnc91 := NB190_198.out; have hnb92 := NB198_194.out; have hnc92 := NB194_198.out; obtain ⟨hcz93_0, hcz93_1, hfz93_0, hfz93_1⟩ := cz2 BK198))
    have n0_ : Aside0 (((w83.setCell ⟨gb198, 0, none⟩ (.int .i64 t195)).setCell ⟨gb198, 1, none⟩ (.int .i64 t196)).heap[gb171]? = some (.cells #[.int .i64 0, .int .i64 0] 23 (0, 0))) := ⟨bk1 BK171 NB171_198⟩
    have n1_ : Aside0 (((w83.setCell ⟨gb198, 0, none⟩ (.int .i64 t195)).setCell ⟨gb198, 1, none⟩ (.int .i64 t196)).heap[gb172]? = some (.cells #[.int .i64 0, .int .i64 0] 23 (0, 0))) := ⟨bk1 BK172 NB172_198⟩
    have n2_ : Aside0 (((w83.setCell ⟨gb198, 0, none⟩ (.int .i64 t195)).setCell ⟨gb198, 1, none⟩ (.int .i64 t196)).heap[gb177]? = some (.cells #[.int .i64 t175, .int .i64 t176] 23 (0, 0))) := ⟨bk1 BK177 NB177_198⟩
    have n3_ : Aside0 (((w83.setCell ⟨gb198, 0, none⟩ (.int .i64 t195)).setCell ⟨gb198, 1, none⟩ (.int .i64 t196)).heap[gb180]? = some (.cells #[.int .i64 t178, .int .i64 t179] 23 (0, 0))) := ⟨bk1 BK180 NB180_198⟩
    have n4_ : Aside0 (((w83.setCell ⟨gb198, 0, none⟩ (.int .i64 t195)).setCell ⟨gb198, 1, none⟩ (.int .i64 t196)).heap[gb181]? = some (.cells #[.int .i64 a0, .int .i64 a0] 23 (0, 0))) := ⟨bk1 BK181 NB181_198⟩
    have n5_ : Aside0 (((w83.setCell ⟨gb198, 0, none⟩ (.int .i64 t195)).setCell ⟨gb198, 1, none⟩ (.int .i64 t196)).heap[gb182]? = some (.cells #[.int .i64 a1, .int .i64 a1] 23 (0, 0))) := ⟨bk1 BK182 NB182_198⟩
    have n6_ : Aside0 (((w83.setCell ⟨gb198, 0, none⟩ (.int .i64 t195)).setCell ⟨gb198, 1, none⟩ (.int .i64 t196)).heap[gb186]? = some (.cells #[.int .i64 t183, .int .i64 t184] 23 (0, 0))) := ⟨bk1 BK186 NB186_198⟩
    have n7_ : Aside0 (((w83.setCell ⟨gb198, 0, none⟩ (.int .i64 t195)).setCell ⟨gb198, 1, none⟩ (.int .i64 t196)).heap[gb190]? = some (.cells #[.int .i64 t187, .int .i64 t188] 23 (0, 0))) := ⟨bk1 BK190 NB190_198⟩
    have n8_ : Aside0 (((w83.setCell ⟨gb198, 0, none⟩ (.int .i64 t195)).setCell ⟨gb198, 1, none⟩ (.int .i64 t196)).heap[gb194]? = some (.cells #[.int .i64 t191, .int .i64 t192] 23 (0, 0))) := ⟨bk1 BK194 NB194_198⟩
    have n9_ : Aside0 (((w83.setCell ⟨gb198, 0, none⟩ (.int .i64 t195)).setCell ⟨gb198, 1, none⟩ (.int .i64 t196)).heap[gb198]? = some (.cells #[.int .i64 t195, .int .i64 t196] 23 (0, 0))) := ⟨bkp BK198⟩
    have n10_ : Aside0 (Below w.heap.size w ((w83.setCell ⟨gb198, 0, none⟩ (.int .i64 t195)).setCell ⟨gb198, 1, none⟩ (.int .i64 t196))) := ⟨hs_ HB⟩
    (try clear BK171)
    (try clear BK172)
    (try clear BK177)
    (try clear BK180)
    (try clear BK181)
    (try clear BK182)
    (try clear BK186)
    (try clear BK190)
    (try clear BK194)
    (try clear BK198)
    (try clear HB)
    generalize ((w83.setCell ⟨gb198, 0, none⟩ (.int .i64 t195)).setCell ⟨gb198, 1, none⟩ (.int .i64 t196)) = w94 at n0_ n1_ n2_ n3_ n4_ n5_ n6_ n7_ n8_ n9_ n10_ ⊢
    have BK171 := n0_
    have BK172 := n1_
    have BK177 := n2_
    have BK180 := n3_
    have BK181 := n4_
    have BK182 := n5_
    have BK186 := n6_
    have BK190 := n7_
    have BK194 := n8_
    have BK198 := n9_
    have HB := n10_
    clear n0_ n1_ n2_ n3_ n4_ n5_ n6_ n7_ n8_ n9_ n10_
    replace BK171 := Aside0.mk (blk_drew BK171.out)
    replace BK172 := Aside0.mk (blk_drew BK172.out)
    replace BK177 := Aside0.mk (blk_drew BK177.out)
    replace BK180 := Aside0.mk (blk_drew BK180.out)
    replace BK181 := Aside0.mk (blk_drew BK181.out)
    replace BK182 := Aside0.mk (blk_drew BK182.out)
    replace BK186 := Aside0.mk (blk_drew BK186.out)
    replace BK190 := Aside0.mk (blk_drew BK190.out)
    replace BK194 := Aside0.mk (blk_drew BK194.out)
    replace BK198 := Aside0.mk (blk_drew BK198.out)
    replace HB := Aside0.mk (below_drew1 HB.out)
    refine start_ (n := 25) (S := fun w' => w'.cell? ⟨gb186, 0, none⟩ = some (.int .i64 t183) ∧ w'.cell? ⟨gb186, 1, none⟩ = some (.int .i64 t184) ∧ w'.cell? ⟨gb190, 0, none⟩ = some (.int .i64 t187) ∧ w'.cell? ⟨gb190, 1, none⟩ = some (.int .i64 t188) ∧ w'.cell? ⟨gb194, 0, none⟩ = some (.int .i64 t191) ∧ w'.cell? ⟨gb194, 1, none⟩ = some (.int .i64 t192) ∧ w'.cell? ⟨gb198, 0, none⟩ = some (.int .i64 t195) ∧ w'.cell? ⟨gb198, 1, none⟩ = some (.int .i64 t196)) (ds := []) #[false, false, false, false, false, false, false, false, false, false, false, false, false, false, false, false, false, false, false, false, false, false, false, false, false] (by kernel_rfl) rfl rfl ⟨(blk_cell BK186.out 0).trans rfl, (blk_cell BK186.out 1).trans rfl, (blk_cell BK190.out 0).trans rfl, (blk_cell BK190.out 1).trans rfl, (blk_cell BK194.out 0).trans rfl, (blk_cell BK194.out 1).trans rfl, (blk_cell BK198.out 0).trans rfl, (blk_cell BK198.out 1).trans rfl⟩ (fun hHeld => ?_); refine with_tabW spec_TurnBy.tab11 spec_TurnBy.bits11 (fun HT_ HW_ => ?_)
    generalize w94.drew = w95 at BK171 BK172 BK177 BK180 BK181 BK182 BK186 BK190 BK194 BK198 HB hHeld ⊢
    refine pure_ (i := 0) (N := some 69) (v := ?_) (a' := ?_) #[true, false, false, false, false, false, false, false, false, false, false, false, false, false, false, false, false, false, false, false, false, false, false, false, false] rfl rfl (any_of HT_.out (by kernel_rfl)) (fun _ _ _ h => h) (Or.inl ⟨by rfl, ?_⟩) ?_ ?_
    rotate_left
    ·intro w'
     go_simp
     with_reducible rfl
    rotate_left
    ·simp only [Act.put, List.setIfInBounds_toArray, List.set_cons_zero, List.set_cons_succ, i64_w, i32_w]
     rfl
    refine pure_ (i := 2) (N := some 71) (v := ?_) (a' := ?_) #[true, false, true, false, false, false, false, false, false, false, false, false, false, false, false, false, false, false, false, false, false, false, false, false, false] rfl rfl (any_of HT_.out (by kernel_rfl)) (fun _ _ _ h => h) (Or.inl ⟨by rfl, ?_⟩) ?_ ?_
    rotate_left
    ·intro w'
     go_simp
     with_reducible rfl
    rotate_left
    ·simp only [Act.put, List.setIfInBounds_toArray, List.set_cons_zero, List.set_cons_succ, i64_w, i32_w]
     rfl
    refine pure_ (i := 5) (N := some 74) (v := ?_) (a' := ?_) #[true, false, true, false, false, true, false, false, false, false, false, false, false, false, false, false, false, false, false, false, false, false, false, false, false] rfl rfl (any_of HT_.out (by kernel_rfl)) (fun _ _ _ h => h) (Or.inl ⟨by rfl, ?_⟩) ?_ ?_
    rotate_left
    ·intro w'
     go_simp
     with_reducible rfl
    rotate_left
    ·simp only [Act.put, List.setIfInBounds_toArray, List.set_cons_zero, List.set_cons_succ, i64_w, i32_w]
     rfl
    refine pure_ (i := 7) (N := some 76) (v := ?_) (a' := ?_) #[true, false, true, false, false, true, false, true, false, false, false, false, false, false, false, false, false, false, false, false, false, false, false, false, false] rfl rfl (any_of HT_.out (by kernel_rfl)) (fun _ _ _ h => h) (Or.inl ⟨by rfl, ?_⟩) ?_ ?_
    rotate_left
    ·intro w'
     go_simp
     with_reducible rfl
    rotate_left
    ·simp only [Act.put, List.setIfInBounds_toArray, List.set_cons_zero, List.set_cons_succ, i64_w, i32_w]
     rfl
    refine pure_ (i := 11) (N := some 80) (v := ?_) (a' := ?_) #[true, false, true, false, false, true, false, true, false, false, false, true, false, false, false, false, false, false, false, false, false, false, false, false, false] rfl rfl (any_of HT_.out (by kernel_rfl)) (fun _ _ _ h => h) (Or.inl ⟨by rfl, ?_⟩) ?_ ?_
    rotate_left
    ·intro w'
     go_simp
     with_reducible rfl
    rotate_left
    ·simp only [Act.put, List.setIfInBounds_toArray, List.set_cons_zero, List.set_cons_succ, i64_w, i32_w]
     rfl
    refine pure_ (i := 13) (N := some 82) (v := ?_) (a' := ?_) #[true, false, true, false, false, true, false, true, false, false, false, true, false, true, false, false, false, false, false, false, false, false, false, false, false] rfl rfl (any_of HT_.out (by kernel_rfl)) (fun _ _ _ h => h) (Or.inl ⟨by rfl, ?_⟩) ?_ ?_
    rotate_left
    ·intro w'
     go_simp
     with_reducible rfl
    rotate_left
    ·simp only [Act.put, List.setIfInBounds_toArray, List.set_cons_zero, List.set_cons_succ, i64_w, i32_w]
     rfl
    refine pure_ (i := 16) (N := some 85) (v := ?_) (a' := ?_) #[true, false, true, false, false, true, false, true, false, false, false, true, false, true, false, false, true, false, false, false, false, false, false, false, false] rfl rfl (any_of HT_.out (by kernel_rfl)) (fun _ _ _ h => h) (Or.inl ⟨by rfl, ?_⟩) ?_ ?_
    rotate_left
    ·intro w'
     go_simp
     with_reducible rfl
    rotate_left
    ·simp only [Act.put, List.setIfInBounds_toArray, List.set_cons_zero, List.set_cons_succ, i64_w, i32_w]
     rfl
    refine pure_ (i := 18) (N := some 87) (v := ?_) (a' := ?_) #[true, false, true, false, false, true, false, true, false, false, false, true, false, true, false, false, true, false, true, false, false, false, false, false, false] rfl rfl (any_of HT_.out (by kernel_rfl)) (fun _ _ _ h => h) (Or.inl ⟨by rfl, ?_⟩) ?_ ?_
    rotate_left
    ·intro w'
     go_simp
     with_reducible rfl
    rotate_left
    ·simp only [Act.put, List.setIfInBounds_toArray, List.set_cons_zero, List.set_cons_succ, i64_w, i32_w]
     rfl
    refine take_ (i := 1) (N := some 70) (v := ?_) (a' := ?_) #[true, true, true, false, false, true, false, true, false, false, false, true, false, true, false, false, true, false, true, false, false, false, false, false, false] rfl rfl (take_ofW HT_.out HW_.out (by kernel_rfl)) (fun _ _ _ h => h) (Or.inl ⟨by rfl, ?_⟩) hHeld ?_ ?_
    rotate_left
    ·rintro w' ⟨s0, s1, s2, s3, s4, s5, s6, s7⟩
     go_simp
     with_reducible rfl
    rotate_left
    ·simp only [Act.put, List.setIfInBounds_toArray, List.set_cons_zero, List.set_cons_succ, i64_w, i32_w]
     rfl
    refine take_ (i := 3) (N := some 72) (v := ?_) (a' := ?_) #[true, true, true, true, false, true, false, true, false, false, false, true, false, true, false, false, true, false, true, false, false, false, false, false, false] rfl rfl (take_ofW HT_.out HW_.out (by kernel_rfl)) (fun _ _ _ h => h) (Or.inl ⟨by rfl, ?_⟩) hHeld ?_ ?_
    rotate_left
    ·rintro w' ⟨s0, s1, s2, s3, s4, s5, s6, s7⟩
     go_simp
     with_reducible rfl
    rotate_left
    ·simp only [Act.put, List.setIfInBounds_toArray, List.set_cons_zero, List.set_cons_succ, i64_w, i32_w]
     rfl
    refine pure_ (i := 4) (N := some 73) (v := ?_) (a' := ?_) #[true, true, true, true, true, true, false, true, false, false, false, true, false, true, false, false, true, false, true, false, false, false, false, false, false] rfl rfl (any_of HT_.out (by kernel_rfl)) (fun _ _ _ h => h) (Or.inl ⟨by rfl, ?_⟩) ?_ ?_
    rotate_left
    ·intro w'
     go_simp
     with_reducible rfl
    rotate_left
    ·simp only [Act.put, List.setIfInBounds_toArray, List.set_cons_zero, List.set_cons_succ, i64_w, i32_w]
     rfl
    refine take_ (i := 6) (N := some 75) (v := ?_) (a' := ?_) #[true, true, true, true, true, true, true, true, false, false, false, true, false, true, false, false, true, false, true, false, false, false, false, false, false] rfl rfl (take_ofW HT_.out HW_.out (by kernel_rfl)) (fun _ _ _ h => h) (Or.inl ⟨by rfl, ?_⟩) hHeld ?_ ?_
    rotate_left
    ·rintro w' ⟨s0, s1, s2, s3, s4, s5, s6, s7⟩
     go_simp
     with_reducible rfl
    rotate_left
    ·simp only [Act.put, List.setIfInBounds_toArray, List.set_cons_zero, List.set_cons_succ, i64_w, i32_w]
     rfl
    refine take_ (i := 8) (N := some 77) (v := ?_) (a' := ?_) #[true, true, true, true, true, true, true, true, true, false, false, true, false, true, false, false, true, false, true, false, false, false, false, false, false] rfl rfl (take_ofW HT_.out HW_.out (by kernel_rfl)) (fun _ _ _ h => h) (Or.inl ⟨by rfl, ?_⟩) hHeld ?_ ?_
    rotate_left
    ·rintro w' ⟨s0, s1, s2, s3, s4, s5, s6, s7⟩
     go_simp
     with_reducible rfl
    rotate_left
    ·simp only [Act.put, List.setIfInBounds_toArray, List.set_cons_zero, List.set_cons_succ, i64_w, i32_w]
     rfl
    refine pure_ (i := 9) (N := some 78) (v := ?_) (a' := ?_) #[true, true, true, true, true, true, true, true, true, true, false, true, false, true, false, false, true, false, true, false, false, false, false, false, false] rfl rfl (any_of HT_.out (by kernel_rfl)) (fun _ _ _ h => h) (Or.inl ⟨by rfl, ?_⟩) ?_ ?_
    rotate_left
    ·intro w'
     go_simp
     with_reducible rfl
    rotate_left
    ·simp only [Act.put, List.setIfInBounds_toArray, List.set_cons_zero, List.set_cons_succ, i64_w, i32_w]
     rfl
    refine pure_ (i := 10) (N := some 79) (v := ?_) (a' := ?_) #[true, true, true, true, true, true, true, true, true, true, true, true, false, true, false, false, true, false, true, false, false, false, false, false, false] rfl rfl (any_of HT_.out (by kernel_rfl)) (fun _ _ _ h => h) (Or.inl ⟨by rfl, ?_⟩) ?_ ?_
    rotate_left
    ·intro w'
     go_simp
     with_reducible rfl
    rotate_left
    ·simp only [Act.put, List.setIfInBounds_toArray, List.set_cons_zero, List.set_cons_succ, i64_w, i32_w]
     rfl
    refine take_ (i := 12) (N := some 81) (v := ?_) (a' := ?_) #[true, true, true, true, true, true, true, true, true, true, true, true, true, true, false, false, true, false, true, false, false, false, false, false, false] rfl rfl (take_ofW HT_.out HW_.out (by kernel_rfl)) (fun _ _ _ h => h) (Or.inl ⟨by rfl, ?_⟩) hHeld ?_ ?_
    rotate_left
    ·rintro w' ⟨s0, s1, s2, s3, s4, s5, s6, s7⟩
     go_simp
     with_reducible rfl
    rotate_left
    ·simp only [Act.put, List.setIfInBounds_toArray, List.set_cons_zero, List.set_cons_succ, i64_w, i32_w]
     rfl
    refine take_ (i := 14) (N := some 83) (v := ?_) (a' := ?_) #[true, true, true, true, true, true, true, true, true, true, true, true, true, true, true, false, true, false, true, false, false, false, false, false, false] rfl rfl (take_ofW HT_.out HW_.out (by kernel_rfl)) (fun _ _ _ h => h) (Or.inl ⟨by rfl, ?_⟩) hHeld ?_ ?_
    rotate_left
    ·rintro w' ⟨s0, s1, s2, s3, s4, s5, s6, s7⟩
     go_simp
     with_reducible rfl
    rotate_left
    ·simp only [Act.put, List.setIfInBounds_toArray, List.set_cons_zero, List.set_cons_succ, i64_w, i32_w]
     rfl
    refine pure_ (i := 15) (N := some 84) (v := ?_) (a' := ?_) #[true, true, true, true, true, true, true, true, true, true, true, true, true, true, true, true, true, false, true, false, false, false, false, false, false] rfl rfl (any_of HT_.out (by kernel_rfl)) (fun _ _ _ h => h) (Or.inl ⟨by rfl, ?_⟩) ?_ ?_
    rotate_left
    ·intro w'
     go_simp
     with_reducible rfl
    rotate_left
    ·simp only [Act.put, List.setIfInBounds_toArray, List.set_cons_zero, List.set_cons_succ, i64_w, i32_w]
     rfl
    refine take_ (i := 17) (N := some 86) (v := ?_) (a' := ?_) #[true, true, true, true, true, true, true, true, true, true, true, true, true, true, true, true, true, true, true, false, false, false, false, false, false] rfl rfl (take_ofW HT_.out HW_.out (by kernel_rfl)) (fun _ _ _ h => h) (Or.inl ⟨by rfl, ?_⟩) hHeld ?_ ?_
    rotate_left
    ·rintro w' ⟨s0, s1, s2, s3, s4, s5, s6, s7⟩
     go_simp
     with_reducible rfl
    rotate_left
    ·simp only [Act.put, List.setIfInBounds_toArray, List.set_cons_zero, List.set_cons_succ, i64_w, i32_w]
     rfl
    refine take_ (i := 19) (N := some 88) (v := ?_) (a' := ?_) #[true, true, true, true, true, true, true, true, true, true, true, true, true, true, true, true, true, true, true, true, false, false, false, false, false] rfl rfl (take_ofW HT_.out HW_.out (by kernel_rfl)) (fun _ _ _ h => h) (Or.inl ⟨by rfl, ?_⟩) hHeld ?_ ?_
    rotate_left
    ·rintro w' ⟨s0, s1, s2, s3, s4, s5, s6, s7⟩
     go_simp
     with_reducible rfl
    rotate_left
    ·simp only [Act.put, List.setIfInBounds_toArray, List.set_cons_zero, List.set_cons_succ, i64_w, i32_w]
     rfl
    refine pure_ (i := 20) (N := some 89) (v := ?_) (a' := ?_) #[true, true, true, true, true, true, true, true, true, true, true, true, true, true, true, true, true, true, true, true, true, false, false, false, false] rfl rfl (any_of HT_.out (by kernel_rfl)) (fun _ _ _ h => h) (Or.inl ⟨by rfl, ?_⟩) ?_ ?_
    rotate_left
    ·intro w'
     go_simp
     with_reducible rfl
    rotate_left
    ·simp only [Act.put, List.setIfInBounds_toArray, List.set_cons_zero, List.set_cons_succ, i64_w, i32_w]
     rfl
    refine pure_ (i := 21) (N := some 90) (v := ?_) (a' := ?_) #[true, true, true, true, true, true, true, true, true, true, true, true, true, true, true, true, true, true, true, true, true, true, false, false, false] rfl rfl (any_of HT_.out (by kernel_rfl)) (fun _ _ _ h => h) (Or.inl ⟨by rfl, ?_⟩) ?_ ?_
    rotate_left
    ·intro w'
     go_simp
     with_reducible rfl
    rotate_left
    ·simp only [Act.put, List.setIfInBounds_toArray, List.set_cons_zero, List.set_cons_succ, i64_w, i32_w]
     rfl
    refine one_ (i := 22) (N := none) #[true, true, true, true, true, true, true, true, true, true, true, true, true, true, true, true, true, true, true, true, true, true, true, false, false] rfl rfl (one_of HT_.out (by kernel_rfl)) (by decide) (fun K hK => ?_)
    have hs96 : w95.cell? ⟨gb171, 0, none⟩ = some (.int .i64 0) := (blk_cell BK171.out 0).trans rfl
    have hfs96 := blk_frozen BK171.out 0
    have hns96_1 := NB172_171.out
    have hns96_2 := NB177_171.out
    have hns96_3 := NB180_171.out
    have hns96_4 := NB181_171.out
    have hns96_5 := NB182_171.out
    have hns96_6 := NB186_171.out
    have hns96_7 := NB190_171.out
    have hns96_8 := NB194_171.out
    have hns96_9 := NB198_171.out
    have hms96_1 := NB171_172.out
    have hms96_2 := NB171_177.out
    have hms96_3 := NB171_180.out
    have hms96_4 := NB171_181.out
    have hms96_5 := NB171_182.out
    have hms96_6 := NB171_186.out
    have hms96_7 := NB171_190.out
    have hms96_8 := NB171_194.out
    have hms96_9 := NB171_198.out
    have hs97 : w95.cell? ⟨gb171, 1, none⟩ = some (.int .i64 0) := (blk_cell BK171.out 1).trans rfl
    have hfs97 := blk_frozen BK171.out 1
    have hns97_1 := NB172_171.out
    have hns97_2 := NB177_171.out
    have hns97_3 := NB180_171.out
    have hns97_4 := NB181_171.out
    have hns97_5 := NB182_171.out
    have hns97_6 := NB186_171.out
    have hns97_7 := NB190_171.out
    have hns97_8 := NB194_171.out
    have hns97_9 := NB198_171.out
    have hms97_1 := NB171_172.out
    have hms97_2 := NB171_177.out
    have hms97_3 := NB171_180.out
    have hms97_4 := NB171_181.out
    have hms97_5 := NB171_182.out
    have hms97_6 := NB171_186.out
    have hms97_7 := NB171_190.out
    have hms97_8 := NB171_194.out
    have hms97_9 := NB171_198.out
    refine skip_ (w1 := ?_) (by rfl) rfl ?_ ?_
    rotate_left
    ·go_simp
     rfl
    refine hK.out _ _ ⟨((cell_far (p := ⟨gb171, _, none⟩) NB186_171.out _).trans (((cell_far (p := ⟨gb171, _, none⟩) NB186_171.out _).trans (hHeld.1)))), ((cell_far (p := ⟨gb171, _, none⟩) NB186_171.out _).trans (((cell_far (p := ⟨gb171, _, none⟩) NB186_171.out _).trans (hHeld.2.1)))), ((cell_far (p := ⟨gb171, _, none⟩) NB190_171.out _).trans (((cell_far (p := ⟨gb171, _, none⟩) NB190_171.out _).trans (hHeld.2.2.1)))), ((cell_far (p := ⟨gb171, _, none⟩) NB190_171.out _).trans (((cell_far (p := ⟨gb171, _, none⟩) NB190_171.out _).trans (hHeld.2.2.2.1)))), ((cell_far (p := ⟨gb171, _, none⟩) NB194_171.out _).trans (((cell_far (p := ⟨gb171, _, none⟩) NB194_171.out _).trans (hHeld.2.2.2.2.1)))), ((cell_far (p := ⟨gb171, _, none⟩) NB194_171.out _).trans (((cell_far (p := ⟨gb171, _, none⟩) NB194_171.out _).trans (hHeld.2.2.2.2.2.1)))), ((cell_far (p := ⟨gb171, _, none⟩) NB198_171.out _).trans (((cell_far (p := ⟨gb171, _, none⟩) NB198_171.out _).trans (hHeld.2.2.2.2.2.2.1)))), ((cell_far (p := ⟨gb171, _, none⟩) NB198_171.out _).trans (((cell_far (p := ⟨gb171, _, none⟩) NB198_171.out _).trans (hHeld.2.2.2.2.2.2.2))))⟩ (fun hHeld => ?_)
    clear hK K
    refine one_ (i := 23) (N := none) #[true, true, true, true, true, true, true, true, true, true, true, true, true, true, true, true, true, true, true, true, true, true, true, true, false] rfl rfl (one_of HT_.out (by kernel_rfl)) (by decide) (fun K hK => ?_)
    have hs98 : w95.cell? ⟨gb172, 0, none⟩ = some (.int .i64 0) := (blk_cell BK172.out 0).trans rfl
    have hfs98 := blk_frozen BK172.out 0
    have hns98_0 := NB171_172.out
    have hns98_2 := NB177_172.out
    have hns98_3 := NB180_172.out
    have hns98_4 := NB181_172.out
    have hns98_5 := NB182_172.out
    have hns98_6 := NB186_172.out
    have hns98_7 := NB190_172.out
    have hns98_8 := NB194_172.out
    have hns98_9 := NB198_172.out
    have hms98_0 := NB172_171.out
    have hms98_2 := NB172_177.out
    have hms98_3 := NB172_180.out
    have hms98_4 := NB172_181.out
    have hms98_5 := NB172_182.out
    have hms98_6 := NB172_186.out
    have hms98_7 := NB172_190.out
    have hms98_8 := NB172_194.out
    have hms98_9 := NB172_198.out
    have hs99 : w95.cell? ⟨gb172, 1, none⟩ = some (.int .i64 0) := (blk_cell BK172.out 1).trans rfl
    have hfs99 := blk_frozen BK172.out 1
    have hns99_0 := NB171_172.out
    have hns99_2 := NB177_172.out
    have hns99_3 := NB180_172.out
    have hns99_4 := NB181_172.out
    have hns99_5 := NB182_172.out
    have hns99_6 := NB186_172.out
    have hns99_7 := NB190_172.out
    have hns99_8 := NB194_172.out
    have hns99_9 := NB198_172.out
    have hms99_0 := NB172_171.out
    have hms99_2 := NB172_177.out
    have hms99_3 := NB172_180.out
    have hms99_4 := NB172_181.out
    have hms99_5 := NB172_182.out
    have hms99_6 := NB172_186.out
    have hms99_7 := NB172_190.out
    have hms99_8 := NB172_194.out
    have hms99_9 := NB172_198.out
    refine skip_ (w1 := ?_) (by rfl) rfl ?_ ?_
    rotate_left
    ·go_simp
     rfl
    refine hK.out _ _ ⟨((cell_far (p := ⟨gb172, _, none⟩) NB186_172.out _).trans (((cell_far (p := ⟨gb172, _, none⟩) NB186_172.out _).trans (hHeld.1)))), ((cell_far (p := ⟨gb172, _, none⟩) NB186_172.out _).trans (((cell_far (p := ⟨gb172, _, none⟩) NB186_172.out _).trans (hHeld.2.1)))), ((cell_far (p := ⟨gb172, _, none⟩) NB190_172.out _).trans (((cell_far (p := ⟨gb172, _, none⟩) NB190_172.out _).trans (hHeld.2.2.1)))), ((cell_far (p := ⟨gb172, _, none⟩) NB190_172.out _).trans (((cell_far (p := ⟨gb172, _, none⟩) NB190_172.out _).trans (hHeld.2.2.2.1)))), ((cell_far (p := ⟨gb172, _, none⟩) NB194_172.out _).trans (((cell_far (p := ⟨gb172, _, none⟩) NB194_172.out _).trans (hHeld.2.2.2.2.1)))), ((cell_far (p := ⟨gb172, _, none⟩) NB194_172.out _).trans (((cell_far (p := ⟨gb172, _, none⟩) NB194_172.out _).trans (hHeld.2.2.2.2.2.1)))), ((cell_far (p := ⟨gb172, _, none⟩) NB198_172.out _).trans (((cell_far (p := ⟨gb172, _, none⟩) NB198_172.out _).trans (hHeld.2.2.2.2.2.2.1)))), ((cell_far (p := ⟨gb172, _, none⟩) NB198_172.out _).trans (((cell_far (p := ⟨gb172, _, none⟩) NB198_172.out _).trans (hHeld.2.2.2.2.2.2.2))))⟩ (fun hHeld => ?_)
    clear hK K
    refine pure_ (i := 24) (N := some 8) (v := ?_) (a' := ?_) #[true, true, true, true, true, true, true, true, true, true, true, true, true, true, true, true, true, true, true, true, true, true, true, true, true] rfl rfl (any_of HT_.out (by kernel_rfl)) (fun _ _ _ h => h) (Or.inl ⟨by rfl, ?_⟩) ?_ ?_
    rotate_left
    ·intro w'
     go_simp
     with_reducible rfl
    rotate_left
    ·simp only [Act.put, List.setIfInBounds_toArray, List.set_cons_zero, List.set_cons_succ, i64_w, i32_w]
     rfl
    refine done_ (done_of HT_.out (by kernel_rfl)) ?_
    try go_wp2
    refine bodyPost_ret (results_list (rs := [.cell 6 23, .cell 7 23, .tmp 8]) rfl (by simp) (.cell gb171 23 #[.int .i64 (wrap64 (t183 + t187)), .int .i64 (wrap64 (t184 + t188))] (0, 0) _ rfl (bkp BK171) Try.underlying23 rfl (by kernel_rfl) (.cell gb172 23 #[.int .i64 (wrap64 (t191 - t196)), .int .i64 (wrap64 (t192 - t195))] (0, 0) _ rfl (bkp BK172) Try.underlying23 rfl (by kernel_rfl) (.tmp .nil)))) rfl ?_
    exact ⟨by first | rfl | (simp [errW_none, errW_some] <;> rfl) | (simp [*, errW_none, errW_some] <;> rfl), hs_ HB⟩


end Go.Proofs.Ytcdgplkmahabiaa.M
