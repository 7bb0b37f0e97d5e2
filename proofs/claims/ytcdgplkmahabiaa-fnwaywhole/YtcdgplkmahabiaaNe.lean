import Derived.Test.YtcdgplkmahabiaaM0
import Derived.Test.YtcdgplkmahabiaaNa
import Derived.Test.YtcdgplkmahabiaaNc
namespace Go.Proofs.Ytcdgplkmahabiaa.M
open Go.RowKit Go.Proofs.YtcdgplkmahabiaaW.PrintWords Go.Proofs.YtcdgplkmahabiaaW.PrintLast Go.Proofs.YtcdgplkmahabiaaW.PrintMore
attribute [local go_sem] max2_int min2_int max_two min_two max_three min_three max_four min_four
attribute [local go_sem high] eqA23 eqA30
attribute [local go_sem] fld23_0 fld23_1 fld30_0 fld30_1 fld55_0 fld55_1 fld55_2 fld55_3 fld55_4
set_option linter.unusedVariables false
set_option linter.unusedSimpArgs false

/-! ### spec_l13Quart: function 56 -/
def spec_l13Quart.f (k : Nat) (a0 : Int) (a1 : Int) : Option (Int × Int) := (spec_l13Ask_half.f k false 0 a0 a1 false 0 32400000).bind fun bt212 => ((spec_l13Ask_half.f k false 0 a0 a1 true 0 32400000).bind fun bt215 => (some (bt212.1, bt215.2)))
theorem spec_l13Quart.mono : ∀ a0 a1 k, LeO (spec_l13Quart.f k a0 a1) (spec_l13Quart.f (k + 1) a0 a1) := by
 intro a0 a1 k
 unfold spec_l13Quart.f
 repeat' first
   | (with_reducible exact spec_l13Ask_half.mono _ _ _ _ _ _ _ _)
   | (with_reducible exact LeO.refl _)
   | (with_reducible exact LeO.none _)
   | (with_reducible refine LeO.ite ?_ ?_)
   | (with_reducible refine LeO.bind ?_ (fun _ => ?_))
   | exact spec_l13Ask_half.mono _ _ _ _ _ _ _ _
   | exact LeO.none _
   | refine LeO.ite ?_ ?_
   | refine LeO.bind ?_ (fun _ => ?_)
set_option maxHeartbeats 8000000 in
set_option maxRecDepth 100000 in
theorem spec_l13Quart.calls (k : Nat) (a0 : Int) (a1 : Int) (r1 : Int) (r2 : Int) (w : World) (h : spec_l13Quart.f k a0 a1 = some (r1, r2)) :
  Calls Try.prog 56 #[.int .i64 a0, .int .i64 a1] w fun e w' => e = .returned (.agg #[.int .i64 r1, .int .i64 r2]) ∧ Below w.heap.size w w' := by
 have hu30 := Try.underlying30
 have hu55 := Try.underlying55
 have HB := Aside0.mk (Below.refl w.heap.size w)
 have H : ((spec_l13Ask_half.f k false 0 a0 a1 false 0 32400000).bind fun bt212 => ((spec_l13Ask_half.f k false 0 a0 a1 true 0 32400000).bind fun bt215 => (some (bt212.1, bt215.2)))) = some (r1, r2) := h
 clear h
 replace H := Option.bind_eq_some_iff.mp H
 obtain ⟨⟨t212, t213⟩, A30, H⟩ := H
 replace H : ((spec_l13Ask_half.f k false 0 a0 a1 true 0 32400000).bind fun bt215 => (some (t212, bt215.2))) = some (r1, r2) := H
 have A3 := Aside0.mk A30
 clear A30
 replace H := Option.bind_eq_some_iff.mp H
 obtain ⟨⟨t215, t216⟩, A40, H⟩ := H
 replace H : (some (t212, t216)) = some (r1, r2) := H
 have A4 := Aside0.mk A40
 clear A40
 simp only [Option.some.injEq, Prod.mk.injEq] at H
 obtain ⟨rfl, rfl⟩ := H
 go_enter Try.func56, Try.ntmps56
 go_wp2_with (first | ((with_reducible refine gate_dst (N := 4) rfl ?_); refine bE 4 #[.int .i64 0, .int .i64 0] 30 ?_; intro gb211 hg w5 hbox hb; have BK211 := Aside0.mk (hbox); have GE211 := gw hg (h0_ HB); have GW211 := GE211; replace HB := hbb (h0_ HB) hb; clear hb hbox hg) | ((with_reducible refine gate_callee (f := 49) rfl ?_); refine gL 10 Try.func49 #[.agg #[.bool false, .int .i64 0, .int .i64 a0, .int .i64 a1, .bool false], .int .i64 0, .int .i64 32400000] ?_; (with_reducible refine (spec_l13Ask_half.calls k false 0 a0 a1 false 0 32400000 t212 t213 _ A3.out).mono ?_); rintro e w6 ⟨rfl, hb⟩; refine ⟨_, rfl, ?_⟩; replace BK211 := bb (bk BK211) hb; replace HB := hbb (hs_ HB) hb; clear hb) | ((with_reducible refine gate_dst (N := 5) rfl ?_); refine bE 5 #[.int .i64 0, .int .i64 0] 30 ?_; intro gb214 hg w7 hbox hb; have BK214 := Aside0.mk (hbox); have GE214 := gw hg (hs_ HB); have GW214 := GE214; have NB211_214 := nl hg (bk BK211); have NB214_211 := ng hg (bk BK211); replace BK211 := bb (bk BK211) hb; replace HB := hbb (hs_ HB) hb; clear hb hbox hg; have hnb8 := NB214_211.out; have hnc8 := NB211_214.out; obtain ⟨hcz9_0, hcz9_1, hfz9_0, hfz9_1⟩ := cz2 BK214) | ((with_reducible refine gate_callee (f := 49) rfl ?_); refine gL 14 Try.func49 #[.agg #[.bool false, .int .i64 0, .int .i64 a0, .int .i64 a1, .bool true], .int .i64 0, .int .i64 32400000] ?_; (with_reducible refine (spec_l13Ask_half.calls k false 0 a0 a1 true 0 32400000 t215 t216 _ A4.out).mono ?_); rintro e w10 ⟨rfl, hb⟩; refine ⟨_, rfl, ?_⟩; replace BK211 := bb (bk1 BK211 NB211_214) hb; replace BK214 := bb (o := .cells #[.int .i64 t212, .int .i64 t213] 30 (0, 0)) (bkp BK214) hb; replace HB := hbb (hs_ HB) hb; clear hb) | ((with_reducible refine gate_dst (N := 6) rfl ?_); refine bE 6 #[.int .i64 0, .int .i64 0] 30 ?_; intro gb217 hg w11 hbox hb; have BK217 := Aside0.mk (hbox); have GE217 := gw hg (hs_ HB); have GW217 := GE217; have NB211_217 := nl hg (bk BK211); have NB217_211 := ng hg (bk BK211); have NB214_217 := nl hg (bk BK214); have NB217_214 := ng hg (bk BK214); replace BK211 := bb (bk BK211) hb; replace BK214 := bb (bk BK214) hb; replace HB := hbb (hs_ HB) hb; clear hb hbox hg; have hnb12 := NB217_211.out; have hnc12 := NB211_217.out; have hnb13 := NB217_214.out; have hnc13 := NB214_217.out; obtain ⟨hcz14_0, hcz14_1, hfz14_0, hfz14_1⟩ := cz2 BK217; obtain ⟨hcz15_0, hcz15_1, hfz15_0, hfz15_1⟩ := cz2 BK214; obtain ⟨hcz16_0, hcz16_1, hfz16_0, hfz16_1⟩ := cz2 BK211))
 refine bodyPost_ret (results_cell_row rfl _ _ gb211 30 #[.int .i64 t212, .int .i64 t216] (0, 0) _ rfl (bkp BK211) Try.underlying30 rfl (by kernel_rfl)) rfl ?_
 exact ⟨by first | rfl | (simp [errW_none, errW_some] <;> rfl) | (simp [*, errW_none, errW_some] <;> rfl), hs_ HB⟩


/-! ### spec_WayOf: function 29 -/
def spec_WayOf.g (a0 a1 x y : Int) : Int × Int :=
  if a1 < 0 then (if a0 < 0 then (wrap64 (-(wrap64 (64800000 - x))), wrap64 (-(wrap64 (64800000 - y)))) else (wrap64 (64800000 - y), wrap64 (64800000 - x)))
  else (if a0 < 0 then (wrap64 (-y), wrap64 (-x)) else (x, y))
def spec_WayOf.f (k : Nat) (a0 : Int) (a1 : Int) : Option (Int × Int × Bool) :=
  if -1000000000 ≤ a0 ∧ a0 ≤ 1000000000 ∧ -1000000000 ≤ a1 ∧ a1 ≤ 1000000000 ∧ ¬ (a0 = 0 ∧ a1 = 0) then
    (spec_l13Quart.f k (if a0 < wrap64 (-a0) then wrap64 (-a0) else a0) (if a1 < wrap64 (-a1) then wrap64 (-a1) else a1)).bind fun s => some ((spec_WayOf.g a0 a1 s.1 s.2).1, (spec_WayOf.g a0 a1 s.1 s.2).2, true)
  else some (0, 0, false)
theorem spec_WayOf.in_ {a : Int} (h : -1000000000 ≤ a ∧ a ≤ 1000000000) : spec_l6In.f a (-1000000000) 1000000000 = some true := by
  unfold spec_l6In.f; rw [if_pos h.1]; simp [h.2]
theorem spec_WayOf.out_ {a : Int} (h : ¬ (-1000000000 ≤ a ∧ a ≤ 1000000000)) : spec_l6In.f a (-1000000000) 1000000000 = some false := by
  unfold spec_l6In.f
  by_cases c : -1000000000 ≤ a
  · rw [if_pos c]; simp; omega
  · rw [if_neg c]
set_option maxHeartbeats 4000000 in
set_option maxRecDepth 100000 in
theorem spec_WayOf.bad0 (a0 a1 : Int) (w : World) (i0 : spec_l6In.f a0 (-1000000000) 1000000000 = some false) :
    Calls Try.prog 29 #[.int .i64 a0, .int .i64 a1] w fun e w' => e = .returned (.tuple #[.agg #[.int .i64 0, .int .i64 0], .bool false]) ∧ Below w.heap.size w w' := by
  have hu := Try.underlying30
  have I0 := Aside0.mk i0
  clear i0
  have HB := (Bl.refl w).alloc (.cells #[.int .i64 0, .int .i64 0] 30 (0, 0))
  have HP := Aside0.mk (blk_new w (.cells #[.int .i64 0, .int .i64 0] 30 (0, 0)))
  go_enter Try.func29, Try.ntmps29
  go_wp2_with (first
    | (go_at_call 48; (with_reducible refine (spec_l6In.calls a0 (-1000000000) 1000000000 false _ I0.out).mono ?_); rintro e w' ⟨rfl, ⟨n0_, rfl⟩⟩))
  exact bodyPost_ret (results_ct rfl _ _ w.heap.size 30 #[.int .i64 0, .int .i64 0] (0, 0) _ rfl (by repeat (first | exact HP.out | with_reducible refine blk_alloc ?_ _ | with_reducible refine blk_drewN ?_ _ | with_reducible refine blk_drew ?_ | refine blk_put (cs := #[.int .i64 0, .int .i64 0]) ?_ 1 _ rfl | refine blk_put (cs := #[.int .i64 0, .int .i64 0]) ?_ 0 _ rfl | refine blk_far ?_ (by simp <;> omega) _)) hu rfl (by kernel_rfl)) rfl ⟨rfl, (show Bl w.heap.size w _ from (by repeat (first | exact HB | refine Bl.set (by first | exact Nat.le_refl _ | (simp <;> omega)) ?_ | refine Bl.alloc ?_ _ | refine Bl.drewN ?_ _ | refine Bl.drew ?_))).out⟩
set_option maxHeartbeats 4000000 in
set_option maxRecDepth 100000 in
theorem spec_WayOf.bad1 (a0 a1 : Int) (w : World) (i0 : spec_l6In.f a0 (-1000000000) 1000000000 = some true) (i1 : spec_l6In.f a1 (-1000000000) 1000000000 = some false) :
    Calls Try.prog 29 #[.int .i64 a0, .int .i64 a1] w fun e w' => e = .returned (.tuple #[.agg #[.int .i64 0, .int .i64 0], .bool false]) ∧ Below w.heap.size w w' := by
  have hu := Try.underlying30
  have I0 := Aside0.mk i0
  clear i0
  have I1 := Aside0.mk i1
  clear i1
  have HB := (Bl.refl w).alloc (.cells #[.int .i64 0, .int .i64 0] 30 (0, 0))
  have HP := Aside0.mk (blk_new w (.cells #[.int .i64 0, .int .i64 0] 30 (0, 0)))
  go_enter Try.func29, Try.ntmps29
  go_wp2_with (first
    | (go_at_call 48; (with_reducible refine (spec_l6In.calls a0 (-1000000000) 1000000000 true _ I0.out).mono ?_); rintro e w' ⟨rfl, ⟨n0_, rfl⟩⟩)
    | (go_at_call 48; (with_reducible refine (spec_l6In.calls a1 (-1000000000) 1000000000 false _ I1.out).mono ?_); rintro e w' ⟨rfl, ⟨n1_, rfl⟩⟩))
  exact bodyPost_ret (results_ct rfl _ _ w.heap.size 30 #[.int .i64 0, .int .i64 0] (0, 0) _ rfl (by repeat (first | exact HP.out | with_reducible refine blk_alloc ?_ _ | with_reducible refine blk_drewN ?_ _ | with_reducible refine blk_drew ?_ | refine blk_put (cs := #[.int .i64 0, .int .i64 0]) ?_ 1 _ rfl | refine blk_put (cs := #[.int .i64 0, .int .i64 0]) ?_ 0 _ rfl | refine blk_far ?_ (by simp <;> omega) _)) hu rfl (by kernel_rfl)) rfl ⟨rfl, (show Bl w.heap.size w _ from (by repeat (first | exact HB | refine Bl.set (by first | exact Nat.le_refl _ | (simp <;> omega)) ?_ | refine Bl.alloc ?_ _ | refine Bl.drewN ?_ _ | refine Bl.drew ?_))).out⟩
set_option maxHeartbeats 4000000 in
set_option maxRecDepth 100000 in
theorem spec_WayOf.bad2 (a0 a1 : Int) (w : World) (i0 : spec_l6In.f a0 (-1000000000) 1000000000 = some true) (i1 : spec_l6In.f a1 (-1000000000) 1000000000 = some true) (z0 : (a0 == 0) = true) (z1 : (a1 == 0) = true) :
    Calls Try.prog 29 #[.int .i64 a0, .int .i64 a1] w fun e w' => e = .returned (.tuple #[.agg #[.int .i64 0, .int .i64 0], .bool false]) ∧ Below w.heap.size w w' := by
  have hu := Try.underlying30
  have I0 := Aside0.mk i0
  clear i0
  have I1 := Aside0.mk i1
  clear i1
  have HB := (Bl.refl w).alloc (.cells #[.int .i64 0, .int .i64 0] 30 (0, 0))
  have HP := Aside0.mk (blk_new w (.cells #[.int .i64 0, .int .i64 0] 30 (0, 0)))
  go_enter Try.func29, Try.ntmps29
  go_wp2_with (first
    | (go_at_call 48; (with_reducible refine (spec_l6In.calls a0 (-1000000000) 1000000000 true _ I0.out).mono ?_); rintro e w' ⟨rfl, ⟨n0_, rfl⟩⟩)
    | (go_at_call 48; (with_reducible refine (spec_l6In.calls a1 (-1000000000) 1000000000 true _ I1.out).mono ?_); rintro e w' ⟨rfl, ⟨n1_, rfl⟩⟩))
  exact bodyPost_ret (results_ct rfl _ _ w.heap.size 30 #[.int .i64 0, .int .i64 0] (0, 0) _ rfl (by repeat (first | exact HP.out | with_reducible refine blk_alloc ?_ _ | with_reducible refine blk_drewN ?_ _ | with_reducible refine blk_drew ?_ | refine blk_put (cs := #[.int .i64 0, .int .i64 0]) ?_ 1 _ rfl | refine blk_put (cs := #[.int .i64 0, .int .i64 0]) ?_ 0 _ rfl | refine blk_far ?_ (by simp <;> omega) _)) hu rfl (by kernel_rfl)) rfl ⟨rfl, (show Bl w.heap.size w _ from (by repeat (first | exact HB | refine Bl.set (by first | exact Nat.le_refl _ | (simp <;> omega)) ?_ | refine Bl.alloc ?_ _ | refine Bl.drewN ?_ _ | refine Bl.drew ?_))).out⟩
set_option maxHeartbeats 4000000 in
set_option maxRecDepth 100000 in
theorem spec_WayOf.good000 (k : Nat) (a0 a1 u v x y : Int) (w : World) (i0 : spec_l6In.f a0 (-1000000000) 1000000000 = some true) (i1 : spec_l6In.f a1 (-1000000000) 1000000000 = some true) (hu0 : (if a0 < wrap64 (-a0) then wrap64 (-a0) else a0) = u) (hv0 : (if a1 < wrap64 (-a1) then wrap64 (-a1) else a1) = v)
    (z0 : (a0 == 0) = false) (n0 : decide (a0 < 0) = false) (n1 : decide (a1 < 0) = false) (hq : spec_l13Quart.f k u v = some (x, y)) :
    Calls Try.prog 29 #[.int .i64 a0, .int .i64 a1] w fun e w' => e = .returned (.tuple #[.agg #[.int .i64 x, .int .i64 y], .bool true]) ∧ Below w.heap.size w w' := by
  have hu := Try.underlying30
  have I0 := Aside0.mk i0
  have I1 := Aside0.mk i1
  have Q := Aside0.mk hq
  clear i0 i1 hq
  have HB := (Bl.refl w).alloc (.cells #[.int .i64 0, .int .i64 0] 30 (0, 0))
  have HP := Aside0.mk (blk_new w (.cells #[.int .i64 0, .int .i64 0] 30 (0, 0)))
  go_enter Try.func29, Try.ntmps29
  go_wp2_with (first
    | (go_at_call 48; (with_reducible refine (spec_l6In.calls a0 (-1000000000) 1000000000 true _ I0.out).mono ?_); rintro e w' ⟨rfl, ⟨n0_, rfl⟩⟩)
    | (go_at_call 48; (with_reducible refine (spec_l6In.calls a1 (-1000000000) 1000000000 true _ I1.out).mono ?_); rintro e w' ⟨rfl, ⟨n1_, rfl⟩⟩)
    | (go_at_call 56; (with_reducible refine (spec_l13Quart.calls k u v x y _ Q.out).mono ?_); rintro e w1 ⟨rfl, hb⟩; replace HB := Bl.call hb (HB.drewN _); replace HP := Aside0.mk (blk_below (blk_drewN HP.out _) hb); obtain ⟨hc, hf⟩ := bcell hb; have hz : w.heap.size < w1.heap.size := (by have := hb.size; simp at this; omega)))
  exact bodyPost_ret (results_ct rfl _ _ w.heap.size 30 #[.int .i64 x, .int .i64 y] (0, 0) _ rfl (by repeat (first | exact HP.out | with_reducible refine blk_alloc ?_ _ | with_reducible refine blk_drewN ?_ _ | with_reducible refine blk_drew ?_ | refine blk_put (cs := #[.int .i64 x, .int .i64 0]) ?_ 1 _ rfl | refine blk_put (cs := #[.int .i64 0, .int .i64 0]) ?_ 0 _ rfl | refine blk_far ?_ (by simp <;> omega) _)) hu rfl (by kernel_rfl)) rfl ⟨rfl, (show Bl w.heap.size w _ from (by repeat (first | exact HB | refine Bl.set (by first | exact Nat.le_refl _ | (simp <;> omega)) ?_ | refine Bl.alloc ?_ _ | refine Bl.drewN ?_ _ | refine Bl.drew ?_))).out⟩
set_option maxHeartbeats 4000000 in
set_option maxRecDepth 100000 in
theorem spec_WayOf.good001 (k : Nat) (a0 a1 u v x y : Int) (w : World) (i0 : spec_l6In.f a0 (-1000000000) 1000000000 = some true) (i1 : spec_l6In.f a1 (-1000000000) 1000000000 = some true) (hu0 : (if a0 < wrap64 (-a0) then wrap64 (-a0) else a0) = u) (hv0 : (if a1 < wrap64 (-a1) then wrap64 (-a1) else a1) = v)
    (z0 : (a0 == 0) = true) (z1 : (a1 == 0) = false) (n0 : decide (a0 < 0) = false) (n1 : decide (a1 < 0) = false) (hq : spec_l13Quart.f k u v = some (x, y)) :
    Calls Try.prog 29 #[.int .i64 a0, .int .i64 a1] w fun e w' => e = .returned (.tuple #[.agg #[.int .i64 x, .int .i64 y], .bool true]) ∧ Below w.heap.size w w' := by
  have hu := Try.underlying30
  have I0 := Aside0.mk i0
  have I1 := Aside0.mk i1
  have Q := Aside0.mk hq
  clear i0 i1 hq
  have HB := (Bl.refl w).alloc (.cells #[.int .i64 0, .int .i64 0] 30 (0, 0))
  have HP := Aside0.mk (blk_new w (.cells #[.int .i64 0, .int .i64 0] 30 (0, 0)))
  go_enter Try.func29, Try.ntmps29
  go_wp2_with (first
    | (go_at_call 48; (with_reducible refine (spec_l6In.calls a0 (-1000000000) 1000000000 true _ I0.out).mono ?_); rintro e w' ⟨rfl, ⟨n0_, rfl⟩⟩)
    | (go_at_call 48; (with_reducible refine (spec_l6In.calls a1 (-1000000000) 1000000000 true _ I1.out).mono ?_); rintro e w' ⟨rfl, ⟨n1_, rfl⟩⟩)
    | (go_at_call 56; (with_reducible refine (spec_l13Quart.calls k u v x y _ Q.out).mono ?_); rintro e w1 ⟨rfl, hb⟩; replace HB := Bl.call hb (HB.drewN _); replace HP := Aside0.mk (blk_below (blk_drewN HP.out _) hb); obtain ⟨hc, hf⟩ := bcell hb; have hz : w.heap.size < w1.heap.size := (by have := hb.size; simp at this; omega)))
  exact bodyPost_ret (results_ct rfl _ _ w.heap.size 30 #[.int .i64 x, .int .i64 y] (0, 0) _ rfl (by repeat (first | exact HP.out | with_reducible refine blk_alloc ?_ _ | with_reducible refine blk_drewN ?_ _ | with_reducible refine blk_drew ?_ | refine blk_put (cs := #[.int .i64 x, .int .i64 0]) ?_ 1 _ rfl | refine blk_put (cs := #[.int .i64 0, .int .i64 0]) ?_ 0 _ rfl | refine blk_far ?_ (by simp <;> omega) _)) hu rfl (by kernel_rfl)) rfl ⟨rfl, (show Bl w.heap.size w _ from (by repeat (first | exact HB | refine Bl.set (by first | exact Nat.le_refl _ | (simp <;> omega)) ?_ | refine Bl.alloc ?_ _ | refine Bl.drewN ?_ _ | refine Bl.drew ?_))).out⟩
set_option maxHeartbeats 4000000 in
set_option maxRecDepth 100000 in
theorem spec_WayOf.good010 (k : Nat) (a0 a1 u v x y : Int) (w : World) (i0 : spec_l6In.f a0 (-1000000000) 1000000000 = some true) (i1 : spec_l6In.f a1 (-1000000000) 1000000000 = some true) (hu0 : (if a0 < wrap64 (-a0) then wrap64 (-a0) else a0) = u) (hv0 : (if a1 < wrap64 (-a1) then wrap64 (-a1) else a1) = v)
    (z0 : (a0 == 0) = false) (n0 : decide (a0 < 0) = false) (n1 : decide (a1 < 0) = true) (hq : spec_l13Quart.f k u v = some (x, y)) :
    Calls Try.prog 29 #[.int .i64 a0, .int .i64 a1] w fun e w' => e = .returned (.tuple #[.agg #[.int .i64 (wrap64 (64800000 - y)), .int .i64 (wrap64 (64800000 - x))], .bool true]) ∧ Below w.heap.size w w' := by
  have hu := Try.underlying30
  have I0 := Aside0.mk i0
  have I1 := Aside0.mk i1
  have Q := Aside0.mk hq
  clear i0 i1 hq
  have HB := (Bl.refl w).alloc (.cells #[.int .i64 0, .int .i64 0] 30 (0, 0))
  have HP := Aside0.mk (blk_new w (.cells #[.int .i64 0, .int .i64 0] 30 (0, 0)))
  go_enter Try.func29, Try.ntmps29
  go_wp2_with (first
    | (go_at_call 48; (with_reducible refine (spec_l6In.calls a0 (-1000000000) 1000000000 true _ I0.out).mono ?_); rintro e w' ⟨rfl, ⟨n0_, rfl⟩⟩)
    | (go_at_call 48; (with_reducible refine (spec_l6In.calls a1 (-1000000000) 1000000000 true _ I1.out).mono ?_); rintro e w' ⟨rfl, ⟨n1_, rfl⟩⟩)
    | (go_at_call 56; (with_reducible refine (spec_l13Quart.calls k u v x y _ Q.out).mono ?_); rintro e w1 ⟨rfl, hb⟩; replace HB := Bl.call hb (HB.drewN _); replace HP := Aside0.mk (blk_below (blk_drewN HP.out _) hb); obtain ⟨hc, hf⟩ := bcell hb; have hz : w.heap.size < w1.heap.size := (by have := hb.size; simp at this; omega)))
  exact bodyPost_ret (results_ct rfl _ _ w.heap.size 30 #[.int .i64 (wrap64 (64800000 - y)), .int .i64 (wrap64 (64800000 - x))] (0, 0) _ rfl (by repeat (first | exact HP.out | with_reducible refine blk_alloc ?_ _ | with_reducible refine blk_drewN ?_ _ | with_reducible refine blk_drew ?_ | refine blk_put (cs := #[.int .i64 (wrap64 (64800000 - y)), .int .i64 0]) ?_ 1 _ rfl | refine blk_put (cs := #[.int .i64 0, .int .i64 0]) ?_ 0 _ rfl | refine blk_far ?_ (by simp <;> omega) _)) hu rfl (by kernel_rfl)) rfl ⟨rfl, (show Bl w.heap.size w _ from (by repeat (first | exact HB | refine Bl.set (by first | exact Nat.le_refl _ | (simp <;> omega)) ?_ | refine Bl.alloc ?_ _ | refine Bl.drewN ?_ _ | refine Bl.drew ?_))).out⟩
set_option maxHeartbeats 4000000 in
set_option maxRecDepth 100000 in
theorem spec_WayOf.good011 (k : Nat) (a0 a1 u v x y : Int) (w : World) (i0 : spec_l6In.f a0 (-1000000000) 1000000000 = some true) (i1 : spec_l6In.f a1 (-1000000000) 1000000000 = some true) (hu0 : (if a0 < wrap64 (-a0) then wrap64 (-a0) else a0) = u) (hv0 : (if a1 < wrap64 (-a1) then wrap64 (-a1) else a1) = v)
    (z0 : (a0 == 0) = true) (z1 : (a1 == 0) = false) (n0 : decide (a0 < 0) = false) (n1 : decide (a1 < 0) = true) (hq : spec_l13Quart.f k u v = some (x, y)) :
    Calls Try.prog 29 #[.int .i64 a0, .int .i64 a1] w fun e w' => e = .returned (.tuple #[.agg #[.int .i64 (wrap64 (64800000 - y)), .int .i64 (wrap64 (64800000 - x))], .bool true]) ∧ Below w.heap.size w w' := by
  have hu := Try.underlying30
  have I0 := Aside0.mk i0
  have I1 := Aside0.mk i1
  have Q := Aside0.mk hq
  clear i0 i1 hq
  have HB := (Bl.refl w).alloc (.cells #[.int .i64 0, .int .i64 0] 30 (0, 0))
  have HP := Aside0.mk (blk_new w (.cells #[.int .i64 0, .int .i64 0] 30 (0, 0)))
  go_enter Try.func29, Try.ntmps29
  go_wp2_with (first
    | (go_at_call 48; (with_reducible refine (spec_l6In.calls a0 (-1000000000) 1000000000 true _ I0.out).mono ?_); rintro e w' ⟨rfl, ⟨n0_, rfl⟩⟩)
    | (go_at_call 48; (with_reducible refine (spec_l6In.calls a1 (-1000000000) 1000000000 true _ I1.out).mono ?_); rintro e w' ⟨rfl, ⟨n1_, rfl⟩⟩)
    | (go_at_call 56; (with_reducible refine (spec_l13Quart.calls k u v x y _ Q.out).mono ?_); rintro e w1 ⟨rfl, hb⟩; replace HB := Bl.call hb (HB.drewN _); replace HP := Aside0.mk (blk_below (blk_drewN HP.out _) hb); obtain ⟨hc, hf⟩ := bcell hb; have hz : w.heap.size < w1.heap.size := (by have := hb.size; simp at this; omega)))
  exact bodyPost_ret (results_ct rfl _ _ w.heap.size 30 #[.int .i64 (wrap64 (64800000 - y)), .int .i64 (wrap64 (64800000 - x))] (0, 0) _ rfl (by repeat (first | exact HP.out | with_reducible refine blk_alloc ?_ _ | with_reducible refine blk_drewN ?_ _ | with_reducible refine blk_drew ?_ | refine blk_put (cs := #[.int .i64 (wrap64 (64800000 - y)), .int .i64 0]) ?_ 1 _ rfl | refine blk_put (cs := #[.int .i64 0, .int .i64 0]) ?_ 0 _ rfl | refine blk_far ?_ (by simp <;> omega) _)) hu rfl (by kernel_rfl)) rfl ⟨rfl, (show Bl w.heap.size w _ from (by repeat (first | exact HB | refine Bl.set (by first | exact Nat.le_refl _ | (simp <;> omega)) ?_ | refine Bl.alloc ?_ _ | refine Bl.drewN ?_ _ | refine Bl.drew ?_))).out⟩
set_option maxHeartbeats 4000000 in
set_option maxRecDepth 100000 in
theorem spec_WayOf.good100 (k : Nat) (a0 a1 u v x y : Int) (w : World) (i0 : spec_l6In.f a0 (-1000000000) 1000000000 = some true) (i1 : spec_l6In.f a1 (-1000000000) 1000000000 = some true) (hu0 : (if a0 < wrap64 (-a0) then wrap64 (-a0) else a0) = u) (hv0 : (if a1 < wrap64 (-a1) then wrap64 (-a1) else a1) = v)
    (z0 : (a0 == 0) = false) (n0 : decide (a0 < 0) = true) (n1 : decide (a1 < 0) = false) (hq : spec_l13Quart.f k u v = some (x, y)) :
    Calls Try.prog 29 #[.int .i64 a0, .int .i64 a1] w fun e w' => e = .returned (.tuple #[.agg #[.int .i64 (wrap64 (-y)), .int .i64 (wrap64 (-x))], .bool true]) ∧ Below w.heap.size w w' := by
  have hu := Try.underlying30
  have I0 := Aside0.mk i0
  have I1 := Aside0.mk i1
  have Q := Aside0.mk hq
  clear i0 i1 hq
  have HB := (Bl.refl w).alloc (.cells #[.int .i64 0, .int .i64 0] 30 (0, 0))
  have HP := Aside0.mk (blk_new w (.cells #[.int .i64 0, .int .i64 0] 30 (0, 0)))
  go_enter Try.func29, Try.ntmps29
  go_wp2_with (first
    | (go_at_call 48; (with_reducible refine (spec_l6In.calls a0 (-1000000000) 1000000000 true _ I0.out).mono ?_); rintro e w' ⟨rfl, ⟨n0_, rfl⟩⟩)
    | (go_at_call 48; (with_reducible refine (spec_l6In.calls a1 (-1000000000) 1000000000 true _ I1.out).mono ?_); rintro e w' ⟨rfl, ⟨n1_, rfl⟩⟩)
    | (go_at_call 56; (with_reducible refine (spec_l13Quart.calls k u v x y _ Q.out).mono ?_); rintro e w1 ⟨rfl, hb⟩; replace HB := Bl.call hb (HB.drewN _); replace HP := Aside0.mk (blk_below (blk_drewN HP.out _) hb); obtain ⟨hc, hf⟩ := bcell hb; have hz : w.heap.size < w1.heap.size := (by have := hb.size; simp at this; omega)))
  exact bodyPost_ret (results_ct rfl _ _ w.heap.size 30 #[.int .i64 (wrap64 (-y)), .int .i64 (wrap64 (-x))] (0, 0) _ rfl (by repeat (first | exact HP.out | with_reducible refine blk_alloc ?_ _ | with_reducible refine blk_drewN ?_ _ | with_reducible refine blk_drew ?_ | refine blk_put (cs := #[.int .i64 (wrap64 (-y)), .int .i64 0]) ?_ 1 _ rfl | refine blk_put (cs := #[.int .i64 0, .int .i64 0]) ?_ 0 _ rfl | refine blk_far ?_ (by simp <;> omega) _)) hu rfl (by kernel_rfl)) rfl ⟨rfl, (show Bl w.heap.size w _ from (by repeat (first | exact HB | refine Bl.set (by first | exact Nat.le_refl _ | (simp <;> omega)) ?_ | refine Bl.alloc ?_ _ | refine Bl.drewN ?_ _ | refine Bl.drew ?_))).out⟩
set_option maxHeartbeats 4000000 in
set_option maxRecDepth 100000 in
theorem spec_WayOf.good110 (k : Nat) (a0 a1 u v x y : Int) (w : World) (i0 : spec_l6In.f a0 (-1000000000) 1000000000 = some true) (i1 : spec_l6In.f a1 (-1000000000) 1000000000 = some true) (hu0 : (if a0 < wrap64 (-a0) then wrap64 (-a0) else a0) = u) (hv0 : (if a1 < wrap64 (-a1) then wrap64 (-a1) else a1) = v)
    (z0 : (a0 == 0) = false) (n0 : decide (a0 < 0) = true) (n1 : decide (a1 < 0) = true) (hq : spec_l13Quart.f k u v = some (x, y)) :
    Calls Try.prog 29 #[.int .i64 a0, .int .i64 a1] w fun e w' => e = .returned (.tuple #[.agg #[.int .i64 (wrap64 (-(wrap64 (64800000 - x)))), .int .i64 (wrap64 (-(wrap64 (64800000 - y))))], .bool true]) ∧ Below w.heap.size w w' := by
  have hu := Try.underlying30
  have I0 := Aside0.mk i0
  have I1 := Aside0.mk i1
  have Q := Aside0.mk hq
  clear i0 i1 hq
  have HB := (Bl.refl w).alloc (.cells #[.int .i64 0, .int .i64 0] 30 (0, 0))
  have HP := Aside0.mk (blk_new w (.cells #[.int .i64 0, .int .i64 0] 30 (0, 0)))
  go_enter Try.func29, Try.ntmps29
  go_wp2_with (first
    | (go_at_call 48; (with_reducible refine (spec_l6In.calls a0 (-1000000000) 1000000000 true _ I0.out).mono ?_); rintro e w' ⟨rfl, ⟨n0_, rfl⟩⟩)
    | (go_at_call 48; (with_reducible refine (spec_l6In.calls a1 (-1000000000) 1000000000 true _ I1.out).mono ?_); rintro e w' ⟨rfl, ⟨n1_, rfl⟩⟩)
    | (go_at_call 56; (with_reducible refine (spec_l13Quart.calls k u v x y _ Q.out).mono ?_); rintro e w1 ⟨rfl, hb⟩; replace HB := Bl.call hb (HB.drewN _); replace HP := Aside0.mk (blk_below (blk_drewN HP.out _) hb); obtain ⟨hc, hf⟩ := bcell hb; have hz : w.heap.size < w1.heap.size := (by have := hb.size; simp at this; omega)))
  exact bodyPost_ret (results_ct rfl _ _ w.heap.size 30 #[.int .i64 (wrap64 (-(wrap64 (64800000 - x)))), .int .i64 (wrap64 (-(wrap64 (64800000 - y))))] (0, 0) _ rfl (by repeat (first | exact HP.out | with_reducible refine blk_alloc ?_ _ | with_reducible refine blk_drewN ?_ _ | with_reducible refine blk_drew ?_ | refine blk_put (cs := #[.int .i64 (wrap64 (-(wrap64 (64800000 - x)))), .int .i64 0]) ?_ 1 _ rfl | refine blk_put (cs := #[.int .i64 0, .int .i64 0]) ?_ 0 _ rfl | refine blk_far ?_ (by simp <;> omega) _)) hu rfl (by kernel_rfl)) rfl ⟨rfl, (show Bl w.heap.size w _ from (by repeat (first | exact HB | refine Bl.set (by first | exact Nat.le_refl _ | (simp <;> omega)) ?_ | refine Bl.alloc ?_ _ | refine Bl.drewN ?_ _ | refine Bl.drew ?_))).out⟩
theorem spec_WayOf.calls (k : Nat) (a0 : Int) (a1 : Int) (r1 : Int) (r2 : Int) (r3 : Bool) (w : World) (h : spec_WayOf.f k a0 a1 = some (r1, r2, r3)) :
    Calls Try.prog 29 #[.int .i64 a0, .int .i64 a1] w fun e w' => e = .returned (.tuple #[.agg #[.int .i64 r1, .int .i64 r2], .bool r3]) ∧ Below w.heap.size w w' := by
  unfold spec_WayOf.f at h
  by_cases c : -1000000000 ≤ a0 ∧ a0 ≤ 1000000000 ∧ -1000000000 ≤ a1 ∧ a1 ≤ 1000000000 ∧ ¬ (a0 = 0 ∧ a1 = 0)
  · rw [if_pos c] at h
    obtain ⟨⟨x, y⟩, hq, h⟩ := Option.bind_eq_some_iff.mp h
    have i0 := spec_WayOf.in_ (a := a0) ⟨c.1, c.2.1⟩
    have i1 := spec_WayOf.in_ (a := a1) ⟨c.2.2.1, c.2.2.2.1⟩
    simp only [Option.some.injEq, Prod.mk.injEq] at h
    obtain ⟨rfl, rfl, rfl⟩ := h
    unfold spec_WayOf.g
    by_cases n1 : a1 < 0 <;> by_cases n0 : a0 < 0 <;> by_cases z0 : a0 = 0
    · omega
    · rw [if_pos n1, if_pos n0]
      exact spec_WayOf.good110 k a0 a1 _ _ x y w i0 i1 rfl rfl (by simpa using z0) (decide_eq_true n0) (decide_eq_true n1) hq
    · rw [if_pos n1, if_neg n0]
      exact spec_WayOf.good011 k a0 a1 _ _ x y w i0 i1 rfl rfl (by simpa using z0) (by have : a1 ≠ 0 := (by omega); simpa using this) (decide_eq_false n0) (decide_eq_true n1) hq
    · rw [if_pos n1, if_neg n0]
      exact spec_WayOf.good010 k a0 a1 _ _ x y w i0 i1 rfl rfl (by simpa using z0) (decide_eq_false n0) (decide_eq_true n1) hq
    · omega
    · rw [if_neg n1, if_pos n0]
      exact spec_WayOf.good100 k a0 a1 _ _ x y w i0 i1 rfl rfl (by simpa using z0) (decide_eq_true n0) (decide_eq_false n1) hq
    · rw [if_neg n1, if_neg n0]
      exact spec_WayOf.good001 k a0 a1 _ _ x y w i0 i1 rfl rfl (by simpa using z0) (by have : a1 ≠ 0 := (by omega); simpa using this) (decide_eq_false n0) (decide_eq_false n1) hq
    · rw [if_neg n1, if_neg n0]
      exact spec_WayOf.good000 k a0 a1 _ _ x y w i0 i1 rfl rfl (by simpa using z0) (decide_eq_false n0) (decide_eq_false n1) hq
  · rw [if_neg c] at h
    simp only [Option.some.injEq, Prod.mk.injEq] at h
    obtain ⟨rfl, rfl, rfl⟩ := h
    by_cases c0 : -1000000000 ≤ a0 ∧ a0 ≤ 1000000000
    · by_cases c1 : -1000000000 ≤ a1 ∧ a1 ≤ 1000000000
      · have e0 : a0 = 0 := by omega
        have e1 : a1 = 0 := by omega
        exact spec_WayOf.bad2 a0 a1 w (spec_WayOf.in_ c0) (spec_WayOf.in_ c1) (by simpa using e0) (by simpa using e1)
      · exact spec_WayOf.bad1 a0 a1 w (spec_WayOf.in_ c0) (spec_WayOf.out_ c1)
    · exact spec_WayOf.bad0 a0 a1 w (spec_WayOf.out_ c0)

end Go.Proofs.Ytcdgplkmahabiaa.M
