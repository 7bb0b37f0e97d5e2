import Derived.Test.YtcdgplkmahabiaaM0
import Derived.Test.YtcdgplkmahabiaaMa
import Derived.Test.YtcdgplkmahabiaaMh
namespace Go.Proofs.Ytcdgplkmahabiaa.M
open Go.RowKit Go.Proofs.YtcdgplkmahabiaaW.PrintWords Go.Proofs.YtcdgplkmahabiaaW.PrintLast Go.Proofs.YtcdgplkmahabiaaW.PrintMore
attribute [local go_sem] max2_int min2_int max_two min_two max_three min_three max_four min_four
attribute [local go_sem high] eqA23 eqA30
attribute [local go_sem] fld23_0 fld23_1 fld30_0 fld30_1 fld55_0 fld55_1 fld55_2 fld55_3 fld55_4
set_option linter.unusedVariables false
set_option linter.unusedSimpArgs false

/-! ### impl_SineBack: function 20 -/
def impl_SineBack.f (k : Nat) (a0 : Int) : Option (Int × Int × Bool) := (impl_isPart.f a0).bind fun t103 => (if t103 = true then ((impl_sineBack.f k a0).bind fun bt104 => (some (bt104.1, bt104.2, true))) else (some (0, 0, false)))
theorem impl_SineBack.mono : ∀ a0 k, LeO (impl_SineBack.f k a0) (impl_SineBack.f (k + 1) a0) := by
 intro a0 k
 unfold impl_SineBack.f
 repeat' first
   | (with_reducible exact impl_sineBack.mono _ _)
   | (with_reducible exact LeO.refl _)
   | (with_reducible exact LeO.none _)
   | (with_reducible refine LeO.ite ?_ ?_)
   | (with_reducible refine LeO.bind ?_ (fun _ => ?_))
   | exact impl_sineBack.mono _ _
   | exact LeO.none _
   | refine LeO.ite ?_ ?_
   | refine LeO.bind ?_ (fun _ => ?_)
set_option maxHeartbeats 8000000 in
set_option maxRecDepth 100000 in
theorem impl_SineBack.calls (k : Nat) (a0 : Int) (r1 : Int) (r2 : Int) (r3 : Bool) (w : World) (h : impl_SineBack.f k a0 = some (r1, r2, r3)) :
  Calls Try.prog 20 #[.int .i64 a0] w fun e w' => e = .returned (.tuple #[.agg #[.int .i64 r1, .int .i64 r2], .bool r3]) ∧ Below w.heap.size w w' := by
 have hu30 := Try.underlying30
 have HB := Aside0.mk (Below.refl w.heap.size w)
 have H : ((impl_isPart.f a0).bind fun t103 => (if t103 = true then ((impl_sineBack.f k a0).bind fun bt104 => (some (bt104.1, bt104.2, true))) else (some (0, 0, false)))) = some (r1, r2, r3) := h
 clear h
 replace H := Option.bind_eq_some_iff.mp H
 obtain ⟨t103, A20, H⟩ := H
 replace H : (if t103 = true then ((impl_sineBack.f k a0).bind fun bt104 => (some (bt104.1, bt104.2, true))) else (some (0, 0, false))) = some (r1, r2, r3) := H
 have A2 := Aside0.mk A20
 clear A20
 by_cases c3 : t103 = true
 ·subst c3
  have H1 : ((impl_sineBack.f k a0).bind fun bt104 => (some (bt104.1, bt104.2, true))) = some (r1, r2, r3) := by rw [if_pos rfl] at H; exact H
  clear H
  have H := H1
  clear H1
  replace H := Option.bind_eq_some_iff.mp H
  obtain ⟨⟨t104, t105⟩, A40, H⟩ := H
  replace H : (some (t104, t105, true)) = some (r1, r2, r3) := H
  have A4 := Aside0.mk A40
  clear A40
  simp only [Option.some.injEq, Prod.mk.injEq] at H
  obtain ⟨rfl, rfl, rfl⟩ := H
  go_enter Try.func20, Try.ntmps20
  go_wp2_with (first | ((with_reducible refine gate_dst (N := 2) rfl ?_); refine bE 2 #[.int .i64 0, .int .i64 0] 30 ?_; intro gb102 hg w5 hbox hb; have BK102 := Aside0.mk (hbox); have GE102 := gw hg (h0_ HB); have GW102 := GE102; replace HB := hbb (h0_ HB) hb; clear hb hbox hg) | ((with_reducible refine gate_callee (f := 50) rfl ?_); refine gL 5 Try.func50 #[.int .i64 a0] ?_; (with_reducible refine (impl_isPart.calls a0 true _ A2.out).mono ?_); rintro e w' ⟨rfl, ⟨nd, rfl⟩⟩; refine ⟨_, rfl, ?_⟩; (try (rw [drewN_self w5]; generalize hq_ : World.drewN w5 _ = w5; have n0_ : Aside0 (w5.heap[gb102]? = some (.cells #[.int .i64 0, .int .i64 0] 30 (0, 0))) := ⟨by rw [← hq_]; exact (bk BK102)⟩; have n1_ : Aside0 (Below w.heap.size w w5) := ⟨by rw [← hq_]; exact (hs_ HB)⟩; clear BK102 HB hq_; have BK102 := n0_; have HB := n1_; clear n0_ n1_))) | ((with_reducible refine gate_callee (f := 51) rfl ?_); refine gL 9 Try.func51 #[.int .i64 a0] ?_; (with_reducible refine (impl_sineBack.calls k a0 t104 t105 _ A4.out).mono ?_); rintro e w6 ⟨rfl, hb⟩; refine ⟨_, rfl, ?_⟩; replace BK102 := bb (bk BK102) hb; replace HB := hbb (hs_ HB) hb; clear hb; obtain ⟨hcz7_0, hcz7_1, hfz7_0, hfz7_1⟩ := cz2 BK102))
  refine bodyPost_ret (results_ct rfl _ _ gb102 30 #[.int .i64 t104, .int .i64 t105] (0, 0) _ rfl (bkp BK102) Try.underlying30 rfl (by kernel_rfl)) rfl ?_
  exact ⟨by first | rfl | (simp [errW_none, errW_some] <;> rfl) | (simp [*, errW_none, errW_some] <;> rfl), hs_ HB⟩
 ·replace c3 := Bool.eq_false_iff.mpr c3
  subst c3
  have H1 : (some (0, 0, false)) = some (r1, r2, r3) := by rw [if_neg (show ¬ (false = true) by decide)] at H; exact H
  clear H
  have H := H1
  clear H1
  simp only [Option.some.injEq, Prod.mk.injEq] at H
  obtain ⟨rfl, rfl, rfl⟩ := H
  go_enter Try.func20, Try.ntmps20
  go_wp2_with (first | ((with_reducible refine gate_dst (N := 2) rfl ?_); refine bE 2 #[.int .i64 0, .int .i64 0] 30 ?_; intro gb102 hg w8 hbox hb; have BK102 := Aside0.mk (hbox); have GE102 := gw hg (h0_ HB); have GW102 := GE102; replace HB := hbb (h0_ HB) hb; clear hb hbox hg) | ((with_reducible refine gate_callee (f := 50) rfl ?_); refine gL 5 Try.func50 #[.int .i64 a0] ?_; (with_reducible refine (impl_isPart.calls a0 false _ A2.out).mono ?_); rintro e w' ⟨rfl, ⟨nd, rfl⟩⟩; refine ⟨_, rfl, ?_⟩; (try (rw [drewN_self w8]; generalize hq_ : World.drewN w8 _ = w8; have n0_ : Aside0 (w8.heap[gb102]? = some (.cells #[.int .i64 0, .int .i64 0] 30 (0, 0))) := ⟨by rw [← hq_]; exact (bk BK102)⟩; have n1_ : Aside0 (Below w.heap.size w w8) := ⟨by rw [← hq_]; exact (hs_ HB)⟩; clear BK102 HB hq_; have BK102 := n0_; have HB := n1_; clear n0_ n1_)); obtain ⟨hcz9_0, hcz9_1, hfz9_0, hfz9_1⟩ := cz2 BK102))
  refine bodyPost_ret (results_ct rfl _ _ gb102 30 #[.int .i64 0, .int .i64 0] (0, 0) _ rfl (bkp BK102) Try.underlying30 rfl (by kernel_rfl)) rfl ?_
  exact ⟨by first | rfl | (simp [errW_none, errW_some] <;> rfl) | (simp [*, errW_none, errW_some] <;> rfl), hs_ HB⟩


/-! ### impl_CosBack: function 24 -/
def impl_CosBack.f (k : Nat) (a0 : Int) : Option (Int × Int × Bool) := (impl_isPart.f a0).bind fun t226 => (if t226 = true then ((impl_sineBack.f k a0).bind fun bt227 => (some (wrap64 (32400000 - bt227.2), wrap64 (32400000 - bt227.1), true))) else (some (0, 0, false)))
theorem impl_CosBack.mono : ∀ a0 k, LeO (impl_CosBack.f k a0) (impl_CosBack.f (k + 1) a0) := by
 intro a0 k
 unfold impl_CosBack.f
 repeat' first
   | (with_reducible exact impl_sineBack.mono _ _)
   | (with_reducible exact LeO.refl _)
   | (with_reducible exact LeO.none _)
   | (with_reducible refine LeO.ite ?_ ?_)
   | (with_reducible refine LeO.bind ?_ (fun _ => ?_))
   | exact impl_sineBack.mono _ _
   | exact LeO.none _
   | refine LeO.ite ?_ ?_
   | refine LeO.bind ?_ (fun _ => ?_)
set_option maxHeartbeats 8000000 in
set_option maxRecDepth 100000 in
theorem impl_CosBack.calls (k : Nat) (a0 : Int) (r1 : Int) (r2 : Int) (r3 : Bool) (w : World) (h : impl_CosBack.f k a0 = some (r1, r2, r3)) :
  Calls Try.prog 24 #[.int .i64 a0] w fun e w' => e = .returned (.tuple #[.agg #[.int .i64 r1, .int .i64 r2], .bool r3]) ∧ Below w.heap.size w w' := by
 have hu30 := Try.underlying30
 have HB := Aside0.mk (Below.refl w.heap.size w)
 have H : ((impl_isPart.f a0).bind fun t226 => (if t226 = true then ((impl_sineBack.f k a0).bind fun bt227 => (some (wrap64 (32400000 - bt227.2), wrap64 (32400000 - bt227.1), true))) else (some (0, 0, false)))) = some (r1, r2, r3) := h
 clear h
 replace H := Option.bind_eq_some_iff.mp H
 obtain ⟨t226, A20, H⟩ := H
 replace H : (if t226 = true then ((impl_sineBack.f k a0).bind fun bt227 => (some (wrap64 (32400000 - bt227.2), wrap64 (32400000 - bt227.1), true))) else (some (0, 0, false))) = some (r1, r2, r3) := H
 have A2 := Aside0.mk A20
 clear A20
 by_cases c3 : t226 = true
 ·subst c3
  have H1 : ((impl_sineBack.f k a0).bind fun bt227 => (some (wrap64 (32400000 - bt227.2), wrap64 (32400000 - bt227.1), true))) = some (r1, r2, r3) := by rw [if_pos rfl] at H; exact H
  clear H
  have H := H1
  clear H1
  replace H := Option.bind_eq_some_iff.mp H
  obtain ⟨⟨t227, t228⟩, A40, H⟩ := H
  replace H : (some (wrap64 (32400000 - t228), wrap64 (32400000 - t227), true)) = some (r1, r2, r3) := H
  have A4 := Aside0.mk A40
  clear A40
  simp only [Option.some.injEq, Prod.mk.injEq] at H
  obtain ⟨rfl, rfl, rfl⟩ := H
  go_enter Try.func24, Try.ntmps24
  go_wp2_with (first | ((with_reducible refine gate_dst (N := 2) rfl ?_); refine bE 2 #[.int .i64 0, .int .i64 0] 30 ?_; intro gb225 hg w5 hbox hb; have BK225 := Aside0.mk (hbox); have GE225 := gw hg (h0_ HB); have GW225 := GE225; replace HB := hbb (h0_ HB) hb; clear hb hbox hg) | ((with_reducible refine gate_callee (f := 50) rfl ?_); refine gL 6 Try.func50 #[.int .i64 a0] ?_; (with_reducible refine (impl_isPart.calls a0 true _ A2.out).mono ?_); rintro e w' ⟨rfl, ⟨nd, rfl⟩⟩; refine ⟨_, rfl, ?_⟩; (try (rw [drewN_self w5]; generalize hq_ : World.drewN w5 _ = w5; have n0_ : Aside0 (w5.heap[gb225]? = some (.cells #[.int .i64 0, .int .i64 0] 30 (0, 0))) := ⟨by rw [← hq_]; exact (bk BK225)⟩; have n1_ : Aside0 (Below w.heap.size w w5) := ⟨by rw [← hq_]; exact (hs_ HB)⟩; clear BK225 HB hq_; have BK225 := n0_; have HB := n1_; clear n0_ n1_))) | ((with_reducible refine gate_callee (f := 51) rfl ?_); refine gL 10 Try.func51 #[.int .i64 a0] ?_; (with_reducible refine (impl_sineBack.calls k a0 t227 t228 _ A4.out).mono ?_); rintro e w6 ⟨rfl, hb⟩; refine ⟨_, rfl, ?_⟩; replace BK225 := bb (bk BK225) hb; replace HB := hbb (hs_ HB) hb; clear hb) | ((with_reducible refine gate_dst (N := 4) rfl ?_); refine bE 4 #[.int .i64 0, .int .i64 0] 30 ?_; intro gb229 hg w7 hbox hb; have BK229 := Aside0.mk (hbox); have GE229 := gw hg (hs_ HB); have GW229 := GE229; have NB225_229 := nl hg (bk BK225); have NB229_225 := ng hg (bk BK225); replace BK225 := bb (bk BK225) hb; replace HB := hbb (hs_ HB) hb; clear hb hbox hg; have hnb8 := NB229_225.out; have hnc8 := NB225_229.out; obtain ⟨hcz9_0, hcz9_1, hfz9_0, hfz9_1⟩ := cz2 BK229; obtain ⟨hcz10_0, hcz10_1, hfz10_0, hfz10_1⟩ := cz2 BK225))
  refine bodyPost_ret (results_ct rfl _ _ gb225 30 #[.int .i64 (wrap64 (32400000 - t228)), .int .i64 (wrap64 (32400000 - t227))] (0, 0) _ rfl (bkp BK225) Try.underlying30 rfl (by kernel_rfl)) rfl ?_
  exact ⟨by first | rfl | (simp [errW_none, errW_some] <;> rfl) | (simp [*, errW_none, errW_some] <;> rfl), hs_ HB⟩
 ·replace c3 := Bool.eq_false_iff.mpr c3
  subst c3
  have H1 : (some (0, 0, false)) = some (r1, r2, r3) := by rw [if_neg (show ¬ (false = true) by decide)] at H; exact H
  clear H
  have H := H1
  clear H1
  simp only [Option.some.injEq, Prod.mk.injEq] at H
  obtain ⟨rfl, rfl, rfl⟩ := H
  go_enter Try.func24, Try.ntmps24
  go_wp2_with (first | ((with_reducible refine gate_dst (N := 2) rfl ?_); refine bE 2 #[.int .i64 0, .int .i64 0] 30 ?_; intro gb225 hg w11 hbox hb; have BK225 := Aside0.mk (hbox); have GE225 := gw hg (h0_ HB); have GW225 := GE225; replace HB := hbb (h0_ HB) hb; clear hb hbox hg) | ((with_reducible refine gate_callee (f := 50) rfl ?_); refine gL 6 Try.func50 #[.int .i64 a0] ?_; (with_reducible refine (impl_isPart.calls a0 false _ A2.out).mono ?_); rintro e w' ⟨rfl, ⟨nd, rfl⟩⟩; refine ⟨_, rfl, ?_⟩; (try (rw [drewN_self w11]; generalize hq_ : World.drewN w11 _ = w11; have n0_ : Aside0 (w11.heap[gb225]? = some (.cells #[.int .i64 0, .int .i64 0] 30 (0, 0))) := ⟨by rw [← hq_]; exact (bk BK225)⟩; have n1_ : Aside0 (Below w.heap.size w w11) := ⟨by rw [← hq_]; exact (hs_ HB)⟩; clear BK225 HB hq_; have BK225 := n0_; have HB := n1_; clear n0_ n1_)); obtain ⟨hcz12_0, hcz12_1, hfz12_0, hfz12_1⟩ := cz2 BK225))
  refine bodyPost_ret (results_ct rfl _ _ gb225 30 #[.int .i64 0, .int .i64 0] (0, 0) _ rfl (bkp BK225) Try.underlying30 rfl (by kernel_rfl)) rfl ?_
  exact ⟨by first | rfl | (simp [errW_none, errW_some] <;> rfl) | (simp [*, errW_none, errW_some] <;> rfl), hs_ HB⟩


end Go.Proofs.Ytcdgplkmahabiaa.M
