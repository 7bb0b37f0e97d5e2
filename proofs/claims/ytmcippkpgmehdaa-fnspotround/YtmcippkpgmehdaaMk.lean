import Derived.Test.YtmcippkpgmehdaaM0
import Derived.Test.YtmcippkpgmehdaaMg
import Derived.Test.YtmcippkpgmehdaaMh
import Derived.Test.YtmcippkpgmehdaaMi
import Derived.Test.YtmcippkpgmehdaaMj
namespace Go.Proofs.Ytmcippkpgmehdaa.M
open Go.RowKit Go.Proofs.YtmcippkpgmehdaaW.PrintWords Go.Proofs.YtmcippkpgmehdaaW.PrintLast Go.Proofs.YtmcippkpgmehdaaW.PrintMore
attribute [local go_sem] max2_int min2_int max_two min_two max_three min_three max_four min_four
attribute [local go_sem high] eqA42 eqA29 eqA24
attribute [local go_sem] fld42_0 fld42_1 fld29_0 fld29_1 fld24_0 fld24_1 fld38_0 fld38_1 fld88_0 fld88_1 fld88_2 fld88_3 fld88_4
set_option linter.unusedVariables false
set_option linter.unusedSimpArgs false

/-! ### impl_SpotDist: function 20 -/
def impl_SpotDist.j0 : Nat → Bool → Int → Int → Int → Int → Option (Int × Int × Bool)
 | 0, _, _, _, _, _ => none
 | k + 1, x15, x419000, x419001, x420000, x420001 => if x15 = true then (some (0, 0, false)) else ((impl_square.f k x419000 x419001 x420000 x420001).bind fun bt423 => ((impl_SpanRoot.f k bt423.1 bt423.2).bind fun bt425 => (if bt425.2.2 = true then ((impl_clip.f bt425.1 bt425.2.1).bind fun bt429 => ((impl_sineBack.f k bt429.1).bind fun bt431 => ((impl_sineBack.f k bt429.2).bind fun bt433 => (some (mx 0 (wrap64 (2 * bt431.1)), wrap64 (2 * bt433.2), true))))) else (some (0, 0, false)))))
def impl_SpotDist.f (k : Nat) (a0_0 : Int) (a0_1 : Int) (a1_0 : Int) (a1_1 : Int) : Option (Int × Int × Bool) := (impl_SpotOk.f a0_0 a0_1).bind fun t421 => (if t421 = true then ((impl_SpotOk.f a1_0 a1_1).bind fun t422 => (impl_SpotDist.j0 k (!t422) a0_0 a0_1 a1_0 a1_1)) else (impl_SpotDist.j0 k true a0_0 a0_1 a1_0 a1_1))
def impl_SpotDist.T7 : Bool × List (List Nat × List Nat) := (true, [([], []), ([0], [0]), ([1], [1]), ([2], [2]), ([3], [3]), ([4], [4]), ([], []), ([6], [6]), ([7, 2], [7]), ([8], [8]), ([9], [9]), ([5, 10], [5, 10]), ([11, 8, 0, 1, 2, 3, 4, 5, 6, 7, 8, 9, 10, 11], [11]), ([12, 0, 1, 2, 3, 4, 5, 6, 7, 8, 9, 10, 11, 12], [])])
def impl_SpotDist.B7 : List Nat := [0, 1, 3, 7, 15, 31, 0, 64, 199, 455, 967, 2047, 4095, 8191]
theorem impl_SpotDist.tab7 : rtab .any (opsOf Try.f20 7) = impl_SpotDist.T7 := by kernel_rfl
theorem impl_SpotDist.bits7 : waitsOk impl_SpotDist.T7.2 impl_SpotDist.B7 = true := by kernel_rfl
set_option maxHeartbeats 8000000 in
set_option maxRecDepth 100000 in
theorem impl_SpotDist.calls (k : Nat) (a0_0 : Int) (a0_1 : Int) (a1_0 : Int) (a1_1 : Int) (r1 : Int) (r2 : Int) (r3 : Bool) (w : World) (h : impl_SpotDist.f k a0_0 a0_1 a1_0 a1_1 = some (r1, r2, r3)) :
  Calls Try.prog 20 #[.agg #[.int .i64 a0_0, .int .i64 a0_1], .agg #[.int .i64 a1_0, .int .i64 a1_1]] w fun e w' => e = .returned (.tuple #[.agg #[.int .i64 r1, .int .i64 r2], .bool r3]) ∧ Below w.heap.size w w' := by
 have hu24 := Try.underlying24
 have hu29 := Try.underlying29
 have hu42 := Try.underlying42
 have HB := Aside0.mk (Below.refl w.heap.size w)
 have H : ((impl_SpotOk.f a0_0 a0_1).bind fun t421 => (if t421 = true then ((impl_SpotOk.f a1_0 a1_1).bind fun t422 => (impl_SpotDist.j0 k (!t422) a0_0 a0_1 a1_0 a1_1)) else (impl_SpotDist.j0 k true a0_0 a0_1 a1_0 a1_1))) = some (r1, r2, r3) := h
 clear h
 have HC3 := Aside0.mk H
 clear H
 go_enter Try.func20, Try.ntmps20
 go_upto_region 1 with (first | ((with_reducible refine gate_dst (N := 2) rfl ?_); refine bE 2 #[.int .i64 a0_0, .int .i64 a0_1] 24 ?_; intro gb418 hg w4 hbox hb; have BK418 := Aside0.mk (hbox); have GE418 := gw hg (hz0 HB); replace HB := hbb (hz0 HB) hb; clear hb hbox hg) | ((with_reducible refine gate_dst (N := 3) rfl ?_); refine bE 3 #[.int .i64 a1_0, .int .i64 a1_1] 24 ?_; intro gb419 hg w5 hbox hb; have BK419 := Aside0.mk (hbox); have GE419 := gw hg (hzs HB); have NB418_419 := nl hg (bk BK418); have NB419_418 := ng hg (bk BK418); replace BK418 := bb (bk BK418) hb; replace HB := hbb (hzs HB) hb; clear hb hbox hg) | ((with_reducible refine gate_dst (N := 4) rfl ?_); refine bE 4 #[.int .i64 0, .int .i64 0] 29 ?_; intro gb420 hg w6 hbox hb; have BK420 := Aside0.mk (hbox); have GE420 := gw hg (hzs HB); have NB418_420 := nl hg (bk BK418); have NB420_418 := ng hg (bk BK418); have NB419_420 := nl hg (bk BK419); have NB420_419 := ng hg (bk BK419); replace BK418 := bb (bk BK418) hb; replace BK419 := bb (bk BK419) hb; replace HB := hbb (hzs HB) hb; clear hb hbox hg))
 (try simp only [Act.put, List.setIfInBounds_toArray, List.set_cons_zero, List.set_cons_succ])
 go_cut [15] (fun v15 wc => ∃ (kq : Nat) (x15_2 : Bool), v15 = .bool x15_2 ∧ Aside0 (impl_SpotDist.j0 kq x15_2 a0_0 a0_1 a1_0 a1_1 = some (r1, r2, r3)) ∧ Aside0 (kq ≤ k) ∧ Aside0 (wc.heap[gb418]? = some (.cells #[.int .i64 a0_0, .int .i64 a0_1] 24 (0, 0))) ∧ Aside0 (wc.heap[gb419]? = some (.cells #[.int .i64 a1_0, .int .i64 a1_1] 24 (0, 0))) ∧ Aside0 (wc.heap[gb420]? = some (.cells #[.int .i64 0, .int .i64 0] 29 (0, 0))) ∧ Aside0 (Below w.heap.size w wc))
 case first =>
  have H := HC3.out
  clear HC3
  replace H := Option.bind_eq_some_iff.mp H
  obtain ⟨t421, A70, H⟩ := H
  try dsimp only at H
  have A7 := Aside0.mk A70
  clear A70
  by_cases c8 : t421 = true
  ·subst c8
   have H1 : ((impl_SpotOk.f a1_0 a1_1).bind fun t422 => (impl_SpotDist.j0 k (!t422) a0_0 a0_1 a1_0 a1_1)) = some (r1, r2, r3) := by rw [if_pos rfl] at H; exact H
   clear H
   have H := H1
   clear H1
   replace H := Option.bind_eq_some_iff.mp H
   obtain ⟨t422, A90, H⟩ := H
   try dsimp only at H
   have A9 := Aside0.mk A90
   clear A90
   have H' := Aside0.mk H
   clear H
   have hnb10 := NB418_419.out
   have hnc10 := NB419_418.out
   have hnb11 := NB418_420.out
   have hnc11 := NB420_418.out
   obtain ⟨hcz12_0, hcz12_1, hfz12_0, hfz12_1⟩ := cz2 BK418
   go_wp2_with (first | ((with_reducible refine gate_callee (f := 21) rfl ?_); refine gL 9 Try.func21 #[.agg #[.int .i64 a0_0, .int .i64 a0_1]] ?_; (with_reducible refine (impl_SpotOk.calls a0_0 a0_1 true _ A7.out).mono ?_); rintro e w13 ⟨rfl, hb⟩; refine ⟨_, rfl, ?_⟩; replace BK418 := bb (bk BK418) hb; replace BK419 := bb (bk BK419) hb; replace BK420 := bb (bk BK420) hb; replace HB := hbb (hzs HB) hb; clear hb; have hnb14 := NB419_420.out; have hnc14 := NB420_419.out; obtain ⟨hcz15_0, hcz15_1, hfz15_0, hfz15_1⟩ := cz2 BK419) | (go_at_call 21; (with_reducible refine (impl_SpotOk.calls a1_0 a1_1 t422 _ A9.out).mono ?_); rintro e w16 ⟨rfl, hb⟩; replace BK418 := bb (bk BK418) hb; replace BK419 := bb (bk BK419) hb; replace BK420 := bb (bk BK420) hb; replace HB := hbb (hzs HB) hb; clear hb))
   go_meet
   case rel => exact ⟨_, (!t422), (by first | rfl | (simp; done) | (simp [*]; done)), H', ⟨by first | omega | exact Nat.le_refl _⟩, ⟨bk BK418⟩, ⟨bk BK419⟩, ⟨bk BK420⟩, ⟨hzs HB⟩⟩
  ·replace c8 := Bool.eq_false_iff.mpr c8
   subst c8
   have H1 : (impl_SpotDist.j0 k true a0_0 a0_1 a1_0 a1_1) = some (r1, r2, r3) := by rw [if_neg (show ¬ (false = true) by decide)] at H; exact H
   clear H
   have H := H1
   clear H1
   have H' := Aside0.mk H
   clear H
   have hnb17 := NB418_419.out
   have hnc17 := NB419_418.out
   have hnb18 := NB418_420.out
   have hnc18 := NB420_418.out
   obtain ⟨hcz19_0, hcz19_1, hfz19_0, hfz19_1⟩ := cz2 BK418
   go_wp2_with (first | ((with_reducible refine gate_callee (f := 21) rfl ?_); refine gL 9 Try.func21 #[.agg #[.int .i64 a0_0, .int .i64 a0_1]] ?_; (with_reducible refine (impl_SpotOk.calls a0_0 a0_1 false _ A7.out).mono ?_); rintro e w20 ⟨rfl, hb⟩; refine ⟨_, rfl, ?_⟩; replace BK418 := bb (bk BK418) hb; replace BK419 := bb (bk BK419) hb; replace BK420 := bb (bk BK420) hb; replace HB := hbb (hzs HB) hb; clear hb))
   go_meet
   case rel => exact ⟨_, (true), (by first | rfl | (simp; done) | (simp [*]; done)), H', ⟨by first | omega | exact Nat.le_refl _⟩, ⟨bk BK418⟩, ⟨bk BK419⟩, ⟨bk BK420⟩, ⟨hzs HB⟩⟩
 case rest =>
  clear HC3
  try clear c1
  try clear c2
  try clear p2
  try clear c8
  try clear c10
  try clear c11
  try clear c14
  try clear c17
  try clear c18
  try clear c20
  try clear hcz12_0 hcz12_1
  try clear hcz15_0 hcz15_1
  try clear hcz19_0 hcz19_1
  try clear hfz12_0 hfz12_1
  try clear hfz15_0 hfz15_1
  try clear hfz19_0 hfz19_1
  obtain ⟨kq, x15_2, rfl, HA, HJ2, BK418, BK419, BK420, HB⟩ := hcut
  cases kq with
  | zero => exact absurd HA.out (by simp [impl_SpotDist.j0])
  | succ kj2 =>
   have H := HA.out
   clear HA
   simp only [impl_SpotDist.j0] at H
   by_cases c21 : x15_2 = true
   ·subst c21
    have H1 : (some (0, 0, false)) = some (r1, r2, r3) := by rw [if_pos rfl] at H; exact H
    clear H
    have H := H1
    clear H1
    simp only [Option.some.injEq, Prod.mk.injEq] at H
    obtain ⟨rfl, rfl, rfl⟩ := H
    have hnb22 := NB420_418.out
    have hnc22 := NB418_420.out
    have hnb23 := NB420_419.out
    have hnc23 := NB419_420.out
    obtain ⟨hcz24_0, hcz24_1, hfz24_0, hfz24_1⟩ := cz2 BK420
    go_wp2
    refine bodyPost_ret (results_ct rfl _ _ gb420 29 #[.int .i64 0, .int .i64 0] (0, 0) _ rfl (bkp BK420) Try.underlying29 rfl (by kernel_rfl)) rfl ?_
    exact ⟨by first | rfl | (simp [errW_none, errW_some] <;> rfl) | (simp [*, errW_none, errW_some] <;> rfl), hzs HB⟩
   ·replace c21 := Bool.eq_false_iff.mpr c21
    subst c21
    have H1 : ((impl_square.f kj2 a0_0 a0_1 a1_0 a1_1).bind fun bt423 => ((impl_SpanRoot.f kj2 bt423.1 bt423.2).bind fun bt425 => (if bt425.2.2 = true then ((impl_clip.f bt425.1 bt425.2.1).bind fun bt429 => ((impl_sineBack.f kj2 bt429.1).bind fun bt431 => ((impl_sineBack.f kj2 bt429.2).bind fun bt433 => (some (mx 0 (wrap64 (2 * bt431.1)), wrap64 (2 * bt433.2), true))))) else (some (0, 0, false))))) = some (r1, r2, r3) := by rw [if_neg (show ¬ (false = true) by decide)] at H; exact H
    clear H
    have H := H1
    clear H1
    replace H := Option.bind_eq_some_iff.mp H
    obtain ⟨⟨t423, t424⟩, A250, H⟩ := H
    try dsimp only at H
    have A25 := Aside0.mk A250
    clear A250
    replace H := Option.bind_eq_some_iff.mp H
    obtain ⟨⟨t425, t426, t427⟩, A260, H⟩ := H
    try dsimp only at H
    have A26 := Aside0.mk A260
    clear A260
    by_cases c27 : t427 = true
    ·subst c27
     have H1 : ((impl_clip.f t425 t426).bind fun bt429 => ((impl_sineBack.f kj2 bt429.1).bind fun bt431 => ((impl_sineBack.f kj2 bt429.2).bind fun bt433 => (some (mx 0 (wrap64 (2 * bt431.1)), wrap64 (2 * bt433.2), true))))) = some (r1, r2, r3) := by rw [if_pos rfl] at H; exact H
     clear H
     have H := H1
     clear H1
     replace H := Option.bind_eq_some_iff.mp H
     obtain ⟨⟨t429, t430⟩, A280, H⟩ := H
     try dsimp only at H
     have A28 := Aside0.mk A280
     clear A280
     replace H := Option.bind_eq_some_iff.mp H
     obtain ⟨⟨t431, t432⟩, A290, H⟩ := H
     try dsimp only at H
     have A29 := Aside0.mk A290
     clear A290
     obtain ⟨ji30, hji30⟩ : ∃ j_ : Int, (mx 0 (wrap64 (2 * t431))) = j_ := ⟨_, rfl⟩
     replace H : ((impl_sineBack.f kj2 t430).bind fun bt433 => (some (ji30, wrap64 (2 * bt433.2), true))) = some (r1, r2, r3) := by first | (rw [hji30] at H; exact H) | (simp only [hji30] at H ⊢; exact H)
     (try rw [hji30] at A25)
     (try rw [hji30] at A26)
     (try rw [hji30] at A28)
     (try rw [hji30] at A29)
     (try (have hji30l : 0 ≤ ji30 := by (rw [← hji30]; unfold mx; (repeat' split) <;> omega)))
     (try (have hji30m : 0 ≤ ji30 := by omega))
     have hji30_ : (if 0 < (wrap64 (2 * t431)) then (wrap64 (2 * t431)) else 0) = ji30 := hji30
     replace H := Option.bind_eq_some_iff.mp H
     obtain ⟨⟨t433, t434⟩, A310, H⟩ := H
     try dsimp only at H
     have A31 := Aside0.mk A310
     clear A310
     simp only [Option.some.injEq, Prod.mk.injEq] at H
     obtain ⟨rfl, rfl, rfl⟩ := H
     have hnb32 := NB418_419.out
     have hnc32 := NB419_418.out
     have hnb33 := NB418_420.out
     have hnc33 := NB420_418.out
     obtain ⟨hcz34_0, hcz34_1, hfz34_0, hfz34_1⟩ := cz2 BK418
     have hnb35 := NB419_420.out
     have hnc35 := NB420_419.out
     obtain ⟨hcz36_0, hcz36_1, hfz36_0, hfz36_1⟩ := cz2 BK419
     try go_wp2_with (first | ((with_reducible refine gate_callee (f := 47) rfl ?_); refine gL 20 Try.func47 #[.agg #[.int .i64 a0_0, .int .i64 a0_1], .agg #[.int .i64 a1_0, .int .i64 a1_1]] ?_; (with_reducible refine (impl_square.calls kj2 a0_0 a0_1 a1_0 a1_1 t423 t424 _ A25.out).mono ?_); rintro e w37 ⟨rfl, hb⟩; refine ⟨_, rfl, ?_⟩; replace BK418 := bb (bk BK418) hb; replace BK419 := bb (bk BK419) hb; replace BK420 := bb (bk BK420) hb; replace HB := hbb (hzs HB) hb; clear hb) | ((with_reducible refine gate_callee (f := 46) rfl ?_); refine gL 21 Try.func46 #[.agg #[.int .i64 t423, .int .i64 t424]] ?_; (with_reducible refine (impl_SpanRoot.calls kj2 t423 t424 t425 t426 true _ A26.out).mono ?_); rintro e w38 ⟨rfl, hb⟩; refine ⟨_, rfl, ?_⟩; replace BK418 := bb (bk BK418) hb; replace BK419 := bb (bk BK419) hb; replace BK420 := bb (bk BK420) hb; replace HB := hbb (hzs HB) hb; clear hb) | ((with_reducible refine gate_dst (N := 6) rfl ?_); refine bE 6 #[.int .i64 0, .int .i64 0] 42 ?_; intro gb428 hg w39 hbox hb; have BK428 := Aside0.mk (hbox); have GE428 := gw hg (hzs HB); have GW428 := GE428; have NB418_428 := nl hg (bk BK418); have NB428_418 := ng hg (bk BK418); have NB419_428 := nl hg (bk BK419); have NB428_419 := ng hg (bk BK419); have NB420_428 := nl hg (bk BK420); have NB428_420 := ng hg (bk BK420); replace BK418 := bb (bk BK418) hb; replace BK419 := bb (bk BK419) hb; replace BK420 := bb (bk BK420) hb; replace HB := hbb (hzs HB) hb; clear hb hbox hg; have hnb40 := NB428_418.out; have hnc40 := NB418_428.out; have hnb41 := NB428_419.out; have hnc41 := NB419_428.out; have hnb42 := NB428_420.out; have hnc42 := NB420_428.out; obtain ⟨hcz43_0, hcz43_1, hfz43_0, hfz43_1⟩ := cz2 BK428) | ((with_reducible refine gate_callee (f := 48) rfl ?_); refine gL 28 Try.func48 #[.agg #[.int .i64 t425, .int .i64 t426]] ?_; (with_reducible refine (impl_clip.calls t425 t426 t429 t430 _ A28.out).mono ?_); rintro e w44 ⟨rfl, hb⟩; refine ⟨_, rfl, ?_⟩; replace BK418 := bb (bk1 BK418 NB418_428) hb; replace BK419 := bb (bk1 BK419 NB419_428) hb; replace BK420 := bb (bk1 BK420 NB420_428) hb; replace BK428 := bb (o := .cells #[.int .i64 t425, .int .i64 t426] 42 (0, 0)) (bkp BK428) hb; replace HB := hbb (hzs HB) hb; clear hb; obtain ⟨hcz45_0, hcz45_1, hfz45_0, hfz45_1⟩ := cz2 BK428))
     have n0_ : Aside0 (((w44.setCell ⟨gb428, 0, none⟩ (.int .i64 t429)).setCell ⟨gb428, 1, none⟩ (.int .i64 t430)).heap[gb418]? = some (.cells #[.int .i64 a0_0, .int .i64 a0_1] 24 (0, 0))) := ⟨bk1 BK418 NB418_428⟩
     have n1_ : Aside0 (((w44.setCell ⟨gb428, 0, none⟩ (.int .i64 t429)).setCell ⟨gb428, 1, none⟩ (.int .i64 t430)).heap[gb419]? = some (.cells #[.int .i64 a1_0, .int .i64 a1_1] 24 (0, 0))) := ⟨bk1 BK419 NB419_428⟩
     have n2_ : Aside0 (((w44.setCell ⟨gb428, 0, none⟩ (.int .i64 t429)).setCell ⟨gb428, 1, none⟩ (.int .i64 t430)).heap[gb420]? = some (.cells #[.int .i64 0, .int .i64 0] 29 (0, 0))) := ⟨bk1 BK420 NB420_428⟩
     have n3_ : Aside0 (((w44.setCell ⟨gb428, 0, none⟩ (.int .i64 t429)).setCell ⟨gb428, 1, none⟩ (.int .i64 t430)).heap[gb428]? = some (.cells #[.int .i64 t429, .int .i64 t430] 42 (0, 0))) := ⟨bkp BK428⟩
     have n4_ : Aside0 (Below w.heap.size w ((w44.setCell ⟨gb428, 0, none⟩ (.int .i64 t429)).setCell ⟨gb428, 1, none⟩ (.int .i64 t430))) := ⟨hzs HB⟩
     (try clear BK418)
     (try clear BK419)
     (try clear BK420)
     (try clear BK428)
     (try clear HB)
     generalize ((w44.setCell ⟨gb428, 0, none⟩ (.int .i64 t429)).setCell ⟨gb428, 1, none⟩ (.int .i64 t430)) = w46 at n0_ n1_ n2_ n3_ n4_ ⊢
     have BK418 := n0_
     have BK419 := n1_
     have BK420 := n2_
     have BK428 := n3_
     have HB := n4_
     clear n0_ n1_ n2_ n3_ n4_
     replace BK418 := Aside0.mk (blk_drew BK418.out)
     replace BK419 := Aside0.mk (blk_drew BK419.out)
     replace BK420 := Aside0.mk (blk_drew BK420.out)
     replace BK428 := Aside0.mk (blk_drew BK428.out)
     replace HB := Aside0.mk (below_drew1 HB.out)
     refine start_ (n := 14) (S := fun w' => w'.cell? ⟨gb428, 0, none⟩ = some (.int .i64 t429) ∧ w'.cell? ⟨gb428, 1, none⟩ = some (.int .i64 t430)) (ds := []) #[false, false, false, false, false, false, false, false, false, false, false, false, false, false] (by kernel_rfl) rfl rfl ⟨cw0 BK428, cw1 BK428⟩ (fun hHeld => ?_); refine with_tabW impl_SpotDist.tab7 impl_SpotDist.bits7 (fun HT_ HW_ => ?_)
     generalize w46.drew = w47 at BK418 BK419 BK420 BK428 HB hHeld ⊢
     refine pU 0 29 #[true, false, false, false, false, false, false, false, false, false, false, false, false, false] HT_ ?_
     refine pU 6 35 #[true, false, false, false, false, false, true, false, false, false, false, false, false, false] HT_ ?_
     refine take_ (i := 1) (N := some 30) (v := ?_) (a' := ?_) #[true, true, false, false, false, false, true, false, false, false, false, false, false, false] rfl rfl (take_ofW HT_.out HW_.out (by kernel_rfl)) (fun _ _ _ h => h) (Or.inl ⟨by rfl, ?_⟩) hHeld ?_ ?_
     rotate_left
     ·rintro w' ⟨s0, s1⟩
      go_simp
      with_reducible rfl
     rotate_left
     ·simp only [Act.put, List.setIfInBounds_toArray, List.set_cons_zero, List.set_cons_succ, i64_w, i32_w]
      rfl
     refine take_ (i := 7) (N := some 36) (v := ?_) (a' := ?_) #[true, true, false, false, false, false, true, true, false, false, false, false, false, false] rfl rfl (take_ofW HT_.out HW_.out (by kernel_rfl)) (fun _ _ _ h => h) (Or.inl ⟨by rfl, ?_⟩) hHeld ?_ ?_
     rotate_left
     ·rintro w' ⟨s0, s1⟩
      go_simp
      with_reducible rfl
     rotate_left
     ·simp only [Act.put, List.setIfInBounds_toArray, List.set_cons_zero, List.set_cons_succ, i64_w, i32_w]
      rfl
     refine oN 2 31 #[true, true, true, false, false, false, true, true, false, false, false, false, false, false] HT_ (fun K hK => ?_)
     refine gS Try.func49 #[.int .i64 t429] ?_
     with_reducible refine (impl_sineBack.calls kj2 t429 t431 t432 _ A29.out).mono ?_
     rintro e w48 ⟨rfl, hb⟩
     refine ⟨_, rfl, ?_⟩
     replace BK418 := bb (bk BK418) hb
     replace BK419 := bb (bk BK419) hb
     replace BK420 := bb (bk BK420) hb
     replace BK428 := bb (bk BK428) hb
     replace HB := hbb (hzs HB) hb
     clear hb
     refine hK.out _ _ ⟨cw0 BK428, cw1 BK428⟩ (fun hHeld => ?_)
     clear hK K
     refine nP ?_
     refine pU 3 32 #[true, true, true, true, false, false, true, true, false, false, false, false, false, false] HT_ ?_
     refine pU 4 33 #[true, true, true, true, true, false, true, true, false, false, false, false, false, false] HT_ ?_
     refine pU 5 34 #[true, true, true, true, true, true, true, true, false, false, false, false, false, false] HT_ ?_
     refine oN 8 37 #[true, true, true, true, true, true, true, true, true, false, false, false, false, false] HT_ (fun K hK => ?_)
     refine gS Try.func49 #[.int .i64 t430] ?_
     with_reducible refine (impl_sineBack.calls kj2 t430 t433 t434 _ A31.out).mono ?_
     rintro e w49 ⟨rfl, hb⟩
     refine ⟨_, rfl, ?_⟩
     replace BK418 := bb (bk BK418) hb
     replace BK419 := bb (bk BK419) hb
     replace BK420 := bb (bk BK420) hb
     replace BK428 := bb (bk BK428) hb
     replace HB := hbb (hzs HB) hb
     clear hb
     refine hK.out _ _ ⟨cw0 BK428, cw1 BK428⟩ (fun hHeld => ?_)
     clear hK K
     refine nP ?_
     refine pU 9 38 #[true, true, true, true, true, true, true, true, true, true, false, false, false, false] HT_ ?_
     refine pU 10 39 #[true, true, true, true, true, true, true, true, true, true, true, false, false, false] HT_ ?_
     refine pU 11 40 #[true, true, true, true, true, true, true, true, true, true, true, true, false, false] HT_ ?_
     refine one_ (i := 12) (N := none) #[true, true, true, true, true, true, true, true, true, true, true, true, true, false] rfl rfl (one_of HT_.out (by kernel_rfl)) (by decide) (fun K hK => ?_)
     have hs50 : w49.cell? ⟨gb420, 0, none⟩ = some (.int .i64 0) := (blk_cell BK420.out 0).trans rfl
     have hfs50 := blk_frozen BK420.out 0
     have hns50_0 := NB418_420.out
     have hns50_1 := NB419_420.out
     have hns50_3 := NB428_420.out
     have hms50_0 := NB420_418.out
     have hms50_1 := NB420_419.out
     have hms50_3 := NB420_428.out
     have hs51 : w49.cell? ⟨gb420, 1, none⟩ = some (.int .i64 0) := (blk_cell BK420.out 1).trans rfl
     have hfs51 := blk_frozen BK420.out 1
     have hns51_0 := NB418_420.out
     have hns51_1 := NB419_420.out
     have hns51_3 := NB428_420.out
     have hms51_0 := NB420_418.out
     have hms51_1 := NB420_419.out
     have hms51_3 := NB420_428.out
     refine skip_ (w1 := ?_) (by rfl) rfl ?_ ?_
     rotate_left
     ·go_simp
      rfl
     refine hK.out _ _ ⟨((cell_far (p := ⟨gb420, _, none⟩) NB428_420.out _).trans (((cell_far (p := ⟨gb420, _, none⟩) NB428_420.out _).trans (hHeld.1)))), ((cell_far (p := ⟨gb420, _, none⟩) NB428_420.out _).trans (((cell_far (p := ⟨gb420, _, none⟩) NB428_420.out _).trans (hHeld.2))))⟩ (fun hHeld => ?_)
     clear hK K
     refine pU 13 5 #[true, true, true, true, true, true, true, true, true, true, true, true, true, true] HT_ ?_
     refine done_ (done_of HT_.out (by kernel_rfl)) ?_
     try go_wp2
     refine bodyPost_ret (results_ct rfl _ _ gb420 29 #[.int .i64 ji30, .int .i64 (wrap64 (2 * t434))] (0, 0) _ rfl (bkp BK420) Try.underlying29 rfl (by kernel_rfl)) rfl ?_
     exact ⟨by first | rfl | (simp [errW_none, errW_some] <;> rfl) | (simp only [← hji30]; first | rfl | (simp [errW_none, errW_some] <;> rfl)) | (simp [*, errW_none, errW_some] <;> rfl), hzs HB⟩
    ·replace c27 := Bool.eq_false_iff.mpr c27
     subst c27
     have H1 : (some (0, 0, false)) = some (r1, r2, r3) := by rw [if_neg (show ¬ (false = true) by decide)] at H; exact H
     clear H
     have H := H1
     clear H1
     simp only [Option.some.injEq, Prod.mk.injEq] at H
     obtain ⟨rfl, rfl, rfl⟩ := H
     have hnb52 := NB418_419.out
     have hnc52 := NB419_418.out
     have hnb53 := NB418_420.out
     have hnc53 := NB420_418.out
     obtain ⟨hcz54_0, hcz54_1, hfz54_0, hfz54_1⟩ := cz2 BK418
     have hnb55 := NB419_420.out
     have hnc55 := NB420_419.out
     obtain ⟨hcz56_0, hcz56_1, hfz56_0, hfz56_1⟩ := cz2 BK419
     go_wp2_with (first | ((with_reducible refine gate_callee (f := 47) rfl ?_); refine gL 20 Try.func47 #[.agg #[.int .i64 a0_0, .int .i64 a0_1], .agg #[.int .i64 a1_0, .int .i64 a1_1]] ?_; (with_reducible refine (impl_square.calls kj2 a0_0 a0_1 a1_0 a1_1 t423 t424 _ A25.out).mono ?_); rintro e w57 ⟨rfl, hb⟩; refine ⟨_, rfl, ?_⟩; replace BK418 := bb (bk BK418) hb; replace BK419 := bb (bk BK419) hb; replace BK420 := bb (bk BK420) hb; replace HB := hbb (hzs HB) hb; clear hb) | ((with_reducible refine gate_callee (f := 46) rfl ?_); refine gL 21 Try.func46 #[.agg #[.int .i64 t423, .int .i64 t424]] ?_; (with_reducible refine (impl_SpanRoot.calls kj2 t423 t424 t425 t426 false _ A26.out).mono ?_); rintro e w58 ⟨rfl, hb⟩; refine ⟨_, rfl, ?_⟩; replace BK418 := bb (bk BK418) hb; replace BK419 := bb (bk BK419) hb; replace BK420 := bb (bk BK420) hb; replace HB := hbb (hzs HB) hb; clear hb) | ((with_reducible refine gate_dst (N := 6) rfl ?_); refine bE 6 #[.int .i64 0, .int .i64 0] 42 ?_; intro gb428 hg w59 hbox hb; have BK428 := Aside0.mk (hbox); have GE428 := gw hg (hzs HB); have GW428 := GE428; have NB418_428 := nl hg (bk BK418); have NB428_418 := ng hg (bk BK418); have NB419_428 := nl hg (bk BK419); have NB428_419 := ng hg (bk BK419); have NB420_428 := nl hg (bk BK420); have NB428_420 := ng hg (bk BK420); replace BK418 := bb (bk BK418) hb; replace BK419 := bb (bk BK419) hb; replace BK420 := bb (bk BK420) hb; replace HB := hbb (hzs HB) hb; clear hb hbox hg; have hnb60 := NB428_418.out; have hnc60 := NB418_428.out; have hnb61 := NB428_419.out; have hnc61 := NB419_428.out; have hnb62 := NB428_420.out; have hnc62 := NB420_428.out; obtain ⟨hcz63_0, hcz63_1, hfz63_0, hfz63_1⟩ := cz2 BK428; obtain ⟨hcz64_0, hcz64_1, hfz64_0, hfz64_1⟩ := cz2 BK420))
     refine bodyPost_ret (results_ct rfl _ _ gb420 29 #[.int .i64 0, .int .i64 0] (0, 0) _ rfl (bkp BK420) Try.underlying29 rfl (by kernel_rfl)) rfl ?_
     exact ⟨by first | rfl | (simp [errW_none, errW_some] <;> rfl) | (simp [*, errW_none, errW_some] <;> rfl), hzs HB⟩


end Go.Proofs.Ytmcippkpgmehdaa.M
