import Derived.Test.YtmcippkpgmehdaaM0
import Derived.Test.YtmcippkpgmehdaaNb
import Derived.Test.YtmcippkpgmehdaaNe
import Derived.Test.YtmcippkpgmehdaaNg
namespace Go.Proofs.Ytmcippkpgmehdaa.M
open Go.RowKit Go.Proofs.YtmcippkpgmehdaaW.PrintWords Go.Proofs.YtmcippkpgmehdaaW.PrintLast Go.Proofs.YtmcippkpgmehdaaW.PrintMore
attribute [local go_sem] max2_int min2_int max_two min_two max_three min_three max_four min_four
attribute [local go_sem high] eqA42 eqA29 eqA24
attribute [local go_sem] fld42_0 fld42_1 fld29_0 fld29_1 fld24_0 fld24_1 fld38_0 fld38_1 fld88_0 fld88_1 fld88_2 fld88_3 fld88_4
set_option linter.unusedVariables false
set_option linter.unusedSimpArgs false

/-! ### spec_l21Clip: function 60 -/
def spec_l21Clip.f (a0_0 : Int) (a0_1 : Int) : Option (Int × Int) := some (mn (mx a0_0 0) 1000000000, mn (mx a0_1 0) 1000000000)
set_option maxHeartbeats 8000000 in
set_option maxRecDepth 100000 in
theorem spec_l21Clip.calls (a0_0 : Int) (a0_1 : Int) (r1 : Int) (r2 : Int) (w : World) (h : spec_l21Clip.f a0_0 a0_1 = some (r1, r2)) :
  Calls Try.prog 60 #[.agg #[.int .i64 a0_0, .int .i64 a0_1]] w fun e w' => e = .returned (.agg #[.int .i64 r1, .int .i64 r2]) ∧ Below w.heap.size w w' := by
 have hu42 := Try.underlying42
 have HB := Aside0.mk (Below.refl w.heap.size w)
 have H : (some (mn (mx a0_0 0) 1000000000, mn (mx a0_1 0) 1000000000)) = some (r1, r2) := h
 clear h
 obtain ⟨ji2, hji2⟩ : ∃ j_ : Int, (mx a0_0 0) = j_ := ⟨_, rfl⟩
 replace H : (some (mn (ji2) 1000000000, mn (mx a0_1 0) 1000000000)) = some (r1, r2) := by first | (rw [hji2] at H; exact H) | (simp only [hji2] at H ⊢; exact H)
 (try (have hji2l : 0 ≤ ji2 := by (rw [← hji2]; unfold mx; (repeat' split) <;> omega)))
 (try (have hji2m : 0 ≤ ji2 := by omega))
 have hji2_ : (if a0_0 < 0 then 0 else a0_0) = ji2 := hji2
 obtain ⟨ji3, hji3⟩ : ∃ j_ : Int, (mn (ji2) 1000000000) = j_ := ⟨_, rfl⟩
 replace H : (some (ji3, mn (mx a0_1 0) 1000000000)) = some (r1, r2) := by first | (rw [hji3] at H; exact H) | (simp only [hji3] at H ⊢; exact H)
 have hji3_ : (if 1000000000 < (ji2) then 1000000000 else (ji2)) = ji3 := hji3
 obtain ⟨ji4, hji4⟩ : ∃ j_ : Int, (mx a0_1 0) = j_ := ⟨_, rfl⟩
 replace H : (some (ji3, mn (ji4) 1000000000)) = some (r1, r2) := by first | (rw [hji4] at H; exact H) | (simp only [hji4] at H ⊢; exact H)
 (try (have hji4l : 0 ≤ ji4 := by (rw [← hji4]; unfold mx; (repeat' split) <;> omega)))
 (try (have hji4m : 0 ≤ ji4 := by omega))
 have hji4_ : (if a0_1 < 0 then 0 else a0_1) = ji4 := hji4
 obtain ⟨ji5, hji5⟩ : ∃ j_ : Int, (mn (ji4) 1000000000) = j_ := ⟨_, rfl⟩
 replace H : (some (ji3, ji5)) = some (r1, r2) := by first | (rw [hji5] at H; exact H) | (simp only [hji5] at H ⊢; exact H)
 have hji5_ : (if 1000000000 < (ji4) then 1000000000 else (ji4)) = ji5 := hji5
 simp only [Option.some.injEq, Prod.mk.injEq] at H
 obtain ⟨rfl, rfl⟩ := H
 go_enter Try.func60, Try.ntmps60
 go_wp2_with (first | ((with_reducible refine gate_dst (N := 1) rfl ?_); refine bE 1 #[.int .i64 a0_0, .int .i64 a0_1] 42 ?_; intro gb177 hg w6 hbox hb; have BK177 := Aside0.mk (hbox); have GE177 := gw hg (hz0 HB); replace HB := hbb (hz0 HB) hb; clear hb hbox hg) | ((with_reducible refine gate_dst (N := 2) rfl ?_); refine bE 2 #[.int .i64 0, .int .i64 0] 42 ?_; intro gb178 hg w7 hbox hb; have BK178 := Aside0.mk (hbox); have GE178 := gw hg (hzs HB); have NB177_178 := nl hg (bk BK177); have NB178_177 := ng hg (bk BK177); replace BK177 := bb (bk BK177) hb; replace HB := hbb (hzs HB) hb; clear hb hbox hg; have hnb8 := NB177_178.out; have hnc8 := NB178_177.out; obtain ⟨hcz9_0, hcz9_1, hfz9_0, hfz9_1⟩ := cz2 BK177; obtain ⟨hcz10_0, hcz10_1, hfz10_0, hfz10_1⟩ := cz2 BK178))
 refine bodyPost_ret (results_cell_row rfl _ _ gb178 42 #[.int .i64 ji3, .int .i64 ji5] (0, 0) _ rfl (bkp BK178) Try.underlying42 rfl (by kernel_rfl)) rfl ?_
 exact ⟨by first | rfl | (simp [errW_none, errW_some] <;> rfl) | (simp only [← hji2, ← hji3, ← hji4, ← hji5]; first | rfl | (simp [errW_none, errW_some] <;> rfl)) | (simp [*, errW_none, errW_some] <;> rfl), hzs HB⟩


/-! ### spec_SpotSquare: function 31 -/
def spec_SpotSquare.j0 : Nat → Bool → Int → Int → Int → Int → Option (Int × Int × Bool)
 | 0, _, _, _, _, _ => none
 | k + 1, x25, x180000, x180001, x181000, x181001 => if x25 = true then (some (0, 0, false)) else ((spec_l12Sine.f k (wrap64 (x181000 - x180000))).bind fun bt184 => ((spec_l12Sine.f k (wrap64 (x181001 - x180001))).bind fun bt187 => ((spec_l12Sine.f k (wrap64 ((wrap64 (2 * x180000)) + 64800000))).bind fun bt190 => ((spec_l12Sine.f k (wrap64 ((wrap64 (2 * x181000)) + 64800000))).bind fun bt193 => ((spec_SpanMul.f k bt184.1 bt184.2 bt184.1 bt184.2).bind fun bt196 => ((spec_SpanMul.f k bt187.1 bt187.2 bt187.1 bt187.2).bind fun bt200 => ((spec_l21Clip.f bt190.1 bt190.2).bind fun bt204 => ((spec_l21Clip.f bt193.1 bt193.2).bind fun bt206 => ((spec_SpanMul.f k bt204.1 bt204.2 bt206.1 bt206.2).bind fun bt208 => ((spec_l21Clip.f bt208.1 bt208.2.1).bind fun bt212 => ((spec_l21Clip.f bt200.1 bt200.2.1).bind fun bt214 => ((spec_SpanMul.f k bt212.1 bt212.2 bt214.1 bt214.2).bind fun bt216 => ((spec_l21Clip.f bt196.1 bt196.2.1).bind fun bt220 => ((spec_l21Clip.f (wrap64 (bt220.1 + bt216.1)) (wrap64 (bt220.2 + bt216.2.1))).bind fun bt222 => (some (bt222.1, bt222.2, true))))))))))))))))
def spec_SpotSquare.f (k : Nat) (a0_0 : Int) (a0_1 : Int) (a1_0 : Int) (a1_1 : Int) : Option (Int × Int × Bool) := (spec_SpotOk.f a0_0 a0_1).bind fun t182 => (if t182 = true then ((spec_SpotOk.f a1_0 a1_1).bind fun t183 => (spec_SpotSquare.j0 k (!t183) a0_0 a0_1 a1_0 a1_1)) else (spec_SpotSquare.j0 k true a0_0 a0_1 a1_0 a1_1))
def spec_SpotSquare.T9 : Bool × List (List Nat × List Nat) := (true, [([], []), ([0], [0]), ([], []), ([2, 1], [2]), ([1, 3, 3], [1, 3]), ([4], [4]), ([5], [5]), ([5], [5]), ([], []), ([8, 6, 4, 0, 1, 2, 3, 4, 5, 6, 8], [6, 8]), ([7, 9, 0, 1, 2, 3, 4, 5, 6, 7, 8, 9], [7])])
def spec_SpotSquare.B9 : List Nat := [0, 1, 0, 7, 15, 31, 63, 63, 0, 383, 1023]
theorem spec_SpotSquare.tab9 : rtab .any (opsOf Try.f31 9) = spec_SpotSquare.T9 := by kernel_rfl
theorem spec_SpotSquare.bits9 : waitsOk spec_SpotSquare.T9.2 spec_SpotSquare.B9 = true := by kernel_rfl
def spec_SpotSquare.T10 : Bool × List (List Nat × List Nat) := (true, [([], []), ([0], [0]), ([], []), ([2, 1], [2]), ([1, 3, 3], [1, 3]), ([4], [4]), ([5], [5]), ([5], [5]), ([], []), ([8, 6, 4, 0, 1, 2, 3, 4, 5, 6, 8], [6, 8]), ([7, 9, 0, 1, 2, 3, 4, 5, 6, 7, 8, 9], [7])])
def spec_SpotSquare.B10 : List Nat := [0, 1, 0, 7, 15, 31, 63, 63, 0, 383, 1023]
theorem spec_SpotSquare.tab10 : rtab .any (opsOf Try.f31 10) = spec_SpotSquare.T10 := by kernel_rfl
theorem spec_SpotSquare.bits10 : waitsOk spec_SpotSquare.T10.2 spec_SpotSquare.B10 = true := by kernel_rfl
set_option maxHeartbeats 8000000 in
set_option maxRecDepth 100000 in
theorem spec_SpotSquare.calls (k : Nat) (a0_0 : Int) (a0_1 : Int) (a1_0 : Int) (a1_1 : Int) (r1 : Int) (r2 : Int) (r3 : Bool) (w : World) (h : spec_SpotSquare.f k a0_0 a0_1 a1_0 a1_1 = some (r1, r2, r3)) :
  Calls Try.prog 31 #[.agg #[.int .i64 a0_0, .int .i64 a0_1], .agg #[.int .i64 a1_0, .int .i64 a1_1]] w fun e w' => e = .returned (.tuple #[.agg #[.int .i64 r1, .int .i64 r2], .bool r3]) ∧ Below w.heap.size w w' := by
 have hu24 := Try.underlying24
 have hu42 := Try.underlying42
 have HB := Aside0.mk (Below.refl w.heap.size w)
 have H : ((spec_SpotOk.f a0_0 a0_1).bind fun t182 => (if t182 = true then ((spec_SpotOk.f a1_0 a1_1).bind fun t183 => (spec_SpotSquare.j0 k (!t183) a0_0 a0_1 a1_0 a1_1)) else (spec_SpotSquare.j0 k true a0_0 a0_1 a1_0 a1_1))) = some (r1, r2, r3) := h
 clear h
 have HC3 := Aside0.mk H
 clear H
 go_enter Try.func31, Try.ntmps31
 go_upto_region 1 with (first | ((with_reducible refine gate_dst (N := 2) rfl ?_); refine bE 2 #[.int .i64 a0_0, .int .i64 a0_1] 24 ?_; intro gb179 hg w4 hbox hb; have BK179 := Aside0.mk (hbox); have GE179 := gw hg (hz0 HB); replace HB := hbb (hz0 HB) hb; clear hb hbox hg) | ((with_reducible refine gate_dst (N := 3) rfl ?_); refine bE 3 #[.int .i64 a1_0, .int .i64 a1_1] 24 ?_; intro gb180 hg w5 hbox hb; have BK180 := Aside0.mk (hbox); have GE180 := gw hg (hzs HB); have NB179_180 := nl hg (bk BK179); have NB180_179 := ng hg (bk BK179); replace BK179 := bb (bk BK179) hb; replace HB := hbb (hzs HB) hb; clear hb hbox hg) | ((with_reducible refine gate_dst (N := 4) rfl ?_); refine bE 4 #[.int .i64 0, .int .i64 0] 42 ?_; intro gb181 hg w6 hbox hb; have BK181 := Aside0.mk (hbox); have GE181 := gw hg (hzs HB); have NB179_181 := nl hg (bk BK179); have NB181_179 := ng hg (bk BK179); have NB180_181 := nl hg (bk BK180); have NB181_180 := ng hg (bk BK180); replace BK179 := bb (bk BK179) hb; replace BK180 := bb (bk BK180) hb; replace HB := hbb (hzs HB) hb; clear hb hbox hg))
 (try simp only [Act.put, List.setIfInBounds_toArray, List.set_cons_zero, List.set_cons_succ])
 go_cut [25] (fun v25 wc => ∃ (kq : Nat) (x25_2 : Bool), v25 = .bool x25_2 ∧ Aside0 (spec_SpotSquare.j0 kq x25_2 a0_0 a0_1 a1_0 a1_1 = some (r1, r2, r3)) ∧ Aside0 (kq ≤ k) ∧ Aside0 (wc.heap[gb179]? = some (.cells #[.int .i64 a0_0, .int .i64 a0_1] 24 (0, 0))) ∧ Aside0 (wc.heap[gb180]? = some (.cells #[.int .i64 a1_0, .int .i64 a1_1] 24 (0, 0))) ∧ Aside0 (wc.heap[gb181]? = some (.cells #[.int .i64 0, .int .i64 0] 42 (0, 0))) ∧ Aside0 (Below w.heap.size w wc))
 case first =>
  have H := HC3.out
  clear HC3
  replace H := Option.bind_eq_some_iff.mp H
  obtain ⟨t182, A70, H⟩ := H
  try dsimp only at H
  have A7 := Aside0.mk A70
  clear A70
  by_cases c8 : t182 = true
  ·subst c8
   have H1 : ((spec_SpotOk.f a1_0 a1_1).bind fun t183 => (spec_SpotSquare.j0 k (!t183) a0_0 a0_1 a1_0 a1_1)) = some (r1, r2, r3) := by rw [if_pos rfl] at H; exact H
   clear H
   have H := H1
   clear H1
   replace H := Option.bind_eq_some_iff.mp H
   obtain ⟨t183, A90, H⟩ := H
   try dsimp only at H
   have A9 := Aside0.mk A90
   clear A90
   have H' := Aside0.mk H
   clear H
   have hnb10 := NB179_180.out
   have hnc10 := NB180_179.out
   have hnb11 := NB179_181.out
   have hnc11 := NB181_179.out
   obtain ⟨hcz12_0, hcz12_1, hfz12_0, hfz12_1⟩ := cz2 BK179
   go_wp2_with (first | ((with_reducible refine gate_callee (f := 26) rfl ?_); refine gL 19 Try.func26 #[.agg #[.int .i64 a0_0, .int .i64 a0_1]] ?_; (with_reducible refine (spec_SpotOk.calls a0_0 a0_1 true _ A7.out).mono ?_); rintro e w13 ⟨rfl, hb⟩; refine ⟨_, rfl, ?_⟩; replace BK179 := bb (bk BK179) hb; replace BK180 := bb (bk BK180) hb; replace BK181 := bb (bk BK181) hb; replace HB := hbb (hzs HB) hb; clear hb; have hnb14 := NB180_181.out; have hnc14 := NB181_180.out; obtain ⟨hcz15_0, hcz15_1, hfz15_0, hfz15_1⟩ := cz2 BK180) | (go_at_call 26; (with_reducible refine (spec_SpotOk.calls a1_0 a1_1 t183 _ A9.out).mono ?_); rintro e w16 ⟨rfl, hb⟩; replace BK179 := bb (bk BK179) hb; replace BK180 := bb (bk BK180) hb; replace BK181 := bb (bk BK181) hb; replace HB := hbb (hzs HB) hb; clear hb))
   go_meet
   case rel => exact ⟨_, (!t183), (by first | rfl | (simp; done) | (simp [*]; done)), H', ⟨by first | omega | exact Nat.le_refl _⟩, ⟨bk BK179⟩, ⟨bk BK180⟩, ⟨bk BK181⟩, ⟨hzs HB⟩⟩
  ·replace c8 := Bool.eq_false_iff.mpr c8
   subst c8
   have H1 : (spec_SpotSquare.j0 k true a0_0 a0_1 a1_0 a1_1) = some (r1, r2, r3) := by rw [if_neg (show ¬ (false = true) by decide)] at H; exact H
   clear H
   have H := H1
   clear H1
   have H' := Aside0.mk H
   clear H
   have hnb17 := NB179_180.out
   have hnc17 := NB180_179.out
   have hnb18 := NB179_181.out
   have hnc18 := NB181_179.out
   obtain ⟨hcz19_0, hcz19_1, hfz19_0, hfz19_1⟩ := cz2 BK179
   go_wp2_with (first | ((with_reducible refine gate_callee (f := 26) rfl ?_); refine gL 19 Try.func26 #[.agg #[.int .i64 a0_0, .int .i64 a0_1]] ?_; (with_reducible refine (spec_SpotOk.calls a0_0 a0_1 false _ A7.out).mono ?_); rintro e w20 ⟨rfl, hb⟩; refine ⟨_, rfl, ?_⟩; replace BK179 := bb (bk BK179) hb; replace BK180 := bb (bk BK180) hb; replace BK181 := bb (bk BK181) hb; replace HB := hbb (hzs HB) hb; clear hb))
   go_meet
   case rel => exact ⟨_, (true), (by first | rfl | (simp; done) | (simp [*]; done)), H', ⟨by first | omega | exact Nat.le_refl _⟩, ⟨bk BK179⟩, ⟨bk BK180⟩, ⟨bk BK181⟩, ⟨hzs HB⟩⟩
 case rest =>
  clear HC3
  try clear c1
  try clear c2
  try clear p2
  try clear c3
  try clear c8
  try clear c10
  try clear c11
  try clear c14
  try clear c17
  try clear c18
  try clear hcz12_0 hcz12_1
  try clear hcz15_0 hcz15_1
  try clear hcz19_0 hcz19_1
  try clear hfz12_0 hfz12_1
  try clear hfz15_0 hfz15_1
  try clear hfz19_0 hfz19_1
  obtain ⟨kq, x25_2, rfl, HA, HJ2, BK179, BK180, BK181, HB⟩ := hcut
  cases kq with
  | zero => exact absurd HA.out (by simp [spec_SpotSquare.j0])
  | succ kj2 =>
   have H := HA.out
   clear HA
   simp only [spec_SpotSquare.j0] at H
   by_cases c21 : x25_2 = true
   ·subst c21
    have H1 : (some (0, 0, false)) = some (r1, r2, r3) := by rw [if_pos rfl] at H; exact H
    clear H
    have H := H1
    clear H1
    simp only [Option.some.injEq, Prod.mk.injEq] at H
    obtain ⟨rfl, rfl, rfl⟩ := H
    have hnb22 := NB181_179.out
    have hnc22 := NB179_181.out
    have hnb23 := NB181_180.out
    have hnc23 := NB180_181.out
    obtain ⟨hcz24_0, hcz24_1, hfz24_0, hfz24_1⟩ := cz2 BK181
    go_wp2
    refine bodyPost_ret (results_ct rfl _ _ gb181 42 #[.int .i64 0, .int .i64 0] (0, 0) _ rfl (bkp BK181) Try.underlying42 rfl (by kernel_rfl)) rfl ?_
    exact ⟨by first | rfl | (simp [errW_none, errW_some] <;> rfl) | (simp [*, errW_none, errW_some] <;> rfl), hzs HB⟩
   ·replace c21 := Bool.eq_false_iff.mpr c21
    subst c21
    have H1 : ((spec_l12Sine.f kj2 (wrap64 (a1_0 - a0_0))).bind fun bt184 => ((spec_l12Sine.f kj2 (wrap64 (a1_1 - a0_1))).bind fun bt187 => ((spec_l12Sine.f kj2 (wrap64 ((wrap64 (2 * a0_0)) + 64800000))).bind fun bt190 => ((spec_l12Sine.f kj2 (wrap64 ((wrap64 (2 * a1_0)) + 64800000))).bind fun bt193 => ((spec_SpanMul.f kj2 bt184.1 bt184.2 bt184.1 bt184.2).bind fun bt196 => ((spec_SpanMul.f kj2 bt187.1 bt187.2 bt187.1 bt187.2).bind fun bt200 => ((spec_l21Clip.f bt190.1 bt190.2).bind fun bt204 => ((spec_l21Clip.f bt193.1 bt193.2).bind fun bt206 => ((spec_SpanMul.f kj2 bt204.1 bt204.2 bt206.1 bt206.2).bind fun bt208 => ((spec_l21Clip.f bt208.1 bt208.2.1).bind fun bt212 => ((spec_l21Clip.f bt200.1 bt200.2.1).bind fun bt214 => ((spec_SpanMul.f kj2 bt212.1 bt212.2 bt214.1 bt214.2).bind fun bt216 => ((spec_l21Clip.f bt196.1 bt196.2.1).bind fun bt220 => ((spec_l21Clip.f (wrap64 (bt220.1 + bt216.1)) (wrap64 (bt220.2 + bt216.2.1))).bind fun bt222 => (some (bt222.1, bt222.2, true)))))))))))))))) = some (r1, r2, r3) := by rw [if_neg (show ¬ (false = true) by decide)] at H; exact H
    clear H
    have H := H1
    clear H1
    replace H := Option.bind_eq_some_iff.mp H
    obtain ⟨⟨t184, t185⟩, A250, H⟩ := H
    try dsimp only at H
    have A25 := Aside0.mk A250
    clear A250
    replace H := Option.bind_eq_some_iff.mp H
    obtain ⟨⟨t187, t188⟩, A260, H⟩ := H
    try dsimp only at H
    have A26 := Aside0.mk A260
    clear A260
    replace H := Option.bind_eq_some_iff.mp H
    obtain ⟨⟨t190, t191⟩, A270, H⟩ := H
    try dsimp only at H
    have A27 := Aside0.mk A270
    clear A270
    replace H := Option.bind_eq_some_iff.mp H
    obtain ⟨⟨t193, t194⟩, A280, H⟩ := H
    try dsimp only at H
    have A28 := Aside0.mk A280
    clear A280
    replace H := Option.bind_eq_some_iff.mp H
    obtain ⟨⟨t196, t197, t198⟩, A290, H⟩ := H
    try dsimp only at H
    have A29 := Aside0.mk A290
    clear A290
    replace H := Option.bind_eq_some_iff.mp H
    obtain ⟨⟨t200, t201, t202⟩, A300, H⟩ := H
    try dsimp only at H
    have A30 := Aside0.mk A300
    clear A300
    replace H := Option.bind_eq_some_iff.mp H
    obtain ⟨⟨t204, t205⟩, A310, H⟩ := H
    try dsimp only at H
    have A31 := Aside0.mk A310
    clear A310
    replace H := Option.bind_eq_some_iff.mp H
    obtain ⟨⟨t206, t207⟩, A320, H⟩ := H
    try dsimp only at H
    have A32 := Aside0.mk A320
    clear A320
    replace H := Option.bind_eq_some_iff.mp H
    obtain ⟨⟨t208, t209, t210⟩, A330, H⟩ := H
    try dsimp only at H
    have A33 := Aside0.mk A330
    clear A330
    replace H := Option.bind_eq_some_iff.mp H
    obtain ⟨⟨t212, t213⟩, A340, H⟩ := H
    try dsimp only at H
    have A34 := Aside0.mk A340
    clear A340
    replace H := Option.bind_eq_some_iff.mp H
    obtain ⟨⟨t214, t215⟩, A350, H⟩ := H
    try dsimp only at H
    have A35 := Aside0.mk A350
    clear A350
    replace H := Option.bind_eq_some_iff.mp H
    obtain ⟨⟨t216, t217, t218⟩, A360, H⟩ := H
    try dsimp only at H
    have A36 := Aside0.mk A360
    clear A360
    replace H := Option.bind_eq_some_iff.mp H
    obtain ⟨⟨t220, t221⟩, A370, H⟩ := H
    try dsimp only at H
    have A37 := Aside0.mk A370
    clear A370
    replace H := Option.bind_eq_some_iff.mp H
    obtain ⟨⟨t222, t223⟩, A380, H⟩ := H
    try dsimp only at H
    have A38 := Aside0.mk A380
    clear A380
    simp only [Option.some.injEq, Prod.mk.injEq] at H
    obtain ⟨rfl, rfl, rfl⟩ := H
    have hnb39 := NB180_179.out
    have hnc39 := NB179_180.out
    have hnb40 := NB180_181.out
    have hnc40 := NB181_180.out
    obtain ⟨hcz41_0, hcz41_1, hfz41_0, hfz41_1⟩ := cz2 BK180
    have hnb42 := NB179_181.out
    have hnc42 := NB181_179.out
    obtain ⟨hcz43_0, hcz43_1, hfz43_0, hfz43_1⟩ := cz2 BK179
    try go_wp2_with (first | ((with_reducible refine gate_callee (f := 58) rfl ?_); refine gL 32 Try.func58 #[.int .i64 (wrap64 (a1_0 - a0_0))] ?_; (with_reducible refine (spec_l12Sine.calls kj2 (wrap64 (a1_0 - a0_0)) t184 t185 _ A25.out).mono ?_); rintro e w44 ⟨rfl, hb⟩; refine ⟨_, rfl, ?_⟩; replace BK179 := bb (bk BK179) hb; replace BK180 := bb (bk BK180) hb; replace BK181 := bb (bk BK181) hb; replace HB := hbb (hzs HB) hb; clear hb) | ((with_reducible refine gate_dst (N := 6) rfl ?_); refine bE 6 #[.int .i64 0, .int .i64 0] 42 ?_; intro gb186 hg w45 hbox hb; have BK186 := Aside0.mk (hbox); have GE186 := gw hg (hzs HB); have NB179_186 := nl hg (bk BK179); have NB186_179 := ng hg (bk BK179); have NB180_186 := nl hg (bk BK180); have NB186_180 := ng hg (bk BK180); have NB181_186 := nl hg (bk BK181); have NB186_181 := ng hg (bk BK181); replace BK179 := bb (bk BK179) hb; replace BK180 := bb (bk BK180) hb; replace BK181 := bb (bk BK181) hb; replace HB := hbb (hzs HB) hb; clear hb hbox hg; have hnb46 := NB186_179.out; have hnc46 := NB179_186.out; have hnb47 := NB186_180.out; have hnc47 := NB180_186.out; have hnb48 := NB186_181.out; have hnc48 := NB181_186.out; obtain ⟨hcz49_0, hcz49_1, hfz49_0, hfz49_1⟩ := cz2 BK186; obtain ⟨hcz50_0, hcz50_1, hfz50_0, hfz50_1⟩ := cz2 BK180; obtain ⟨hcz51_0, hcz51_1, hfz51_0, hfz51_1⟩ := cz2 BK179) | ((with_reducible refine gate_callee (f := 58) rfl ?_); refine gL 38 Try.func58 #[.int .i64 (wrap64 (a1_1 - a0_1))] ?_; (with_reducible refine (spec_l12Sine.calls kj2 (wrap64 (a1_1 - a0_1)) t187 t188 _ A26.out).mono ?_); rintro e w52 ⟨rfl, hb⟩; refine ⟨_, rfl, ?_⟩; replace BK179 := bb (bk1 BK179 NB179_186) hb; replace BK180 := bb (bk1 BK180 NB180_186) hb; replace BK181 := bb (bk1 BK181 NB181_186) hb; replace BK186 := bb (o := .cells #[.int .i64 t184, .int .i64 t185] 42 (0, 0)) (bkp BK186) hb; replace HB := hbb (hzs HB) hb; clear hb) | ((with_reducible refine gate_dst (N := 7) rfl ?_); refine bE 7 #[.int .i64 0, .int .i64 0] 42 ?_; intro gb189 hg w53 hbox hb; have BK189 := Aside0.mk (hbox); have GE189 := gw hg (hzs HB); have NB179_189 := nl hg (bk BK179); have NB189_179 := ng hg (bk BK179); have NB180_189 := nl hg (bk BK180); have NB189_180 := ng hg (bk BK180); have NB181_189 := nl hg (bk BK181); have NB189_181 := ng hg (bk BK181); have NB186_189 := nl hg (bk BK186); have NB189_186 := ng hg (bk BK186); replace BK179 := bb (bk BK179) hb; replace BK180 := bb (bk BK180) hb; replace BK181 := bb (bk BK181) hb; replace BK186 := bb (bk BK186) hb; replace HB := hbb (hzs HB) hb; clear hb hbox hg; have hnb54 := NB189_179.out; have hnc54 := NB179_189.out; have hnb55 := NB189_180.out; have hnc55 := NB180_189.out; have hnb56 := NB189_181.out; have hnc56 := NB181_189.out; have hnb57 := NB189_186.out; have hnc57 := NB186_189.out; obtain ⟨hcz58_0, hcz58_1, hfz58_0, hfz58_1⟩ := cz2 BK189; obtain ⟨hcz59_0, hcz59_1, hfz59_0, hfz59_1⟩ := cz2 BK179) | ((with_reducible refine gate_callee (f := 58) rfl ?_); refine gL 43 Try.func58 #[.int .i64 (wrap64 ((wrap64 (2 * a0_0)) + 64800000))] ?_; (with_reducible refine (spec_l12Sine.calls kj2 (wrap64 ((wrap64 (2 * a0_0)) + 64800000)) t190 t191 _ A27.out).mono ?_); rintro e w60 ⟨rfl, hb⟩; refine ⟨_, rfl, ?_⟩; replace BK179 := bb (bk1 BK179 NB179_189) hb; replace BK180 := bb (bk1 BK180 NB180_189) hb; replace BK181 := bb (bk1 BK181 NB181_189) hb; replace BK186 := bb (bk1 BK186 NB186_189) hb; replace BK189 := bb (o := .cells #[.int .i64 t187, .int .i64 t188] 42 (0, 0)) (bkp BK189) hb; replace HB := hbb (hzs HB) hb; clear hb) | ((with_reducible refine gate_dst (N := 8) rfl ?_); refine bE 8 #[.int .i64 0, .int .i64 0] 42 ?_; intro gb192 hg w61 hbox hb; have BK192 := Aside0.mk (hbox); have GE192 := gw hg (hzs HB); have NB179_192 := nl hg (bk BK179); have NB192_179 := ng hg (bk BK179); have NB180_192 := nl hg (bk BK180); have NB192_180 := ng hg (bk BK180); have NB181_192 := nl hg (bk BK181); have NB192_181 := ng hg (bk BK181); have NB186_192 := nl hg (bk BK186); have NB192_186 := ng hg (bk BK186); have NB189_192 := nl hg (bk BK189); have NB192_189 := ng hg (bk BK189); replace BK179 := bb (bk BK179) hb; replace BK180 := bb (bk BK180) hb; replace BK181 := bb (bk BK181) hb; replace BK186 := bb (bk BK186) hb; replace BK189 := bb (bk BK189) hb; replace HB := hbb (hzs HB) hb; clear hb hbox hg; have hnb62 := NB192_179.out; have hnc62 := NB179_192.out; have hnb63 := NB192_180.out; have hnc63 := NB180_192.out; have hnb64 := NB192_181.out; have hnc64 := NB181_192.out; have hnb65 := NB192_186.out; have hnc65 := NB186_192.out; have hnb66 := NB192_189.out; have hnc66 := NB189_192.out; obtain ⟨hcz67_0, hcz67_1, hfz67_0, hfz67_1⟩ := cz2 BK192; obtain ⟨hcz68_0, hcz68_1, hfz68_0, hfz68_1⟩ := cz2 BK180) | ((with_reducible refine gate_callee (f := 58) rfl ?_); refine gL 48 Try.func58 #[.int .i64 (wrap64 ((wrap64 (2 * a1_0)) + 64800000))] ?_; (with_reducible refine (spec_l12Sine.calls kj2 (wrap64 ((wrap64 (2 * a1_0)) + 64800000)) t193 t194 _ A28.out).mono ?_); rintro e w69 ⟨rfl, hb⟩; refine ⟨_, rfl, ?_⟩; replace BK179 := bb (bk1 BK179 NB179_192) hb; replace BK180 := bb (bk1 BK180 NB180_192) hb; replace BK181 := bb (bk1 BK181 NB181_192) hb; replace BK186 := bb (bk1 BK186 NB186_192) hb; replace BK189 := bb (bk1 BK189 NB189_192) hb; replace BK192 := bb (o := .cells #[.int .i64 t190, .int .i64 t191] 42 (0, 0)) (bkp BK192) hb; replace HB := hbb (hzs HB) hb; clear hb) | ((with_reducible refine gate_dst (N := 9) rfl ?_); refine bE 9 #[.int .i64 0, .int .i64 0] 42 ?_; intro gb195 hg w70 hbox hb; have BK195 := Aside0.mk (hbox); have GE195 := gw hg (hzs HB); have NB179_195 := nl hg (bk BK179); have NB195_179 := ng hg (bk BK179); have NB180_195 := nl hg (bk BK180); have NB195_180 := ng hg (bk BK180); have NB181_195 := nl hg (bk BK181); have NB195_181 := ng hg (bk BK181); have NB186_195 := nl hg (bk BK186); have NB195_186 := ng hg (bk BK186); have NB189_195 := nl hg (bk BK189); have NB195_189 := ng hg (bk BK189); have NB192_195 := nl hg (bk BK192); have NB195_192 := ng hg (bk BK192); replace BK179 := bb (bk BK179) hb; replace BK180 := bb (bk BK180) hb; replace BK181 := bb (bk BK181) hb; replace BK186 := bb (bk BK186) hb; replace BK189 := bb (bk BK189) hb; replace BK192 := bb (bk BK192) hb; replace HB := hbb (hzs HB) hb; clear hb hbox hg; have hnb71 := NB195_179.out; have hnc71 := NB179_195.out; have hnb72 := NB195_180.out; have hnc72 := NB180_195.out; have hnb73 := NB195_181.out; have hnc73 := NB181_195.out; have hnb74 := NB195_186.out; have hnc74 := NB186_195.out; have hnb75 := NB195_189.out; have hnc75 := NB189_195.out; have hnb76 := NB195_192.out; have hnc76 := NB192_195.out; obtain ⟨hcz77_0, hcz77_1, hfz77_0, hfz77_1⟩ := cz2 BK195; obtain ⟨hcz78_0, hcz78_1, hfz78_0, hfz78_1⟩ := cz2 BK186) | ((with_reducible refine gate_callee (f := 59) rfl ?_); refine gL 52 Try.func59 #[.agg #[.int .i64 t184, .int .i64 t185], .agg #[.int .i64 t184, .int .i64 t185]] ?_; (with_reducible refine (spec_SpanMul.calls kj2 t184 t185 t184 t185 t196 t197 t198 _ A29.out).mono ?_); rintro e w79 ⟨rfl, hb⟩; refine ⟨_, rfl, ?_⟩; replace BK179 := bb (bk1 BK179 NB179_195) hb; replace BK180 := bb (bk1 BK180 NB180_195) hb; replace BK181 := bb (bk1 BK181 NB181_195) hb; replace BK186 := bb (bk1 BK186 NB186_195) hb; replace BK189 := bb (bk1 BK189 NB189_195) hb; replace BK192 := bb (bk1 BK192 NB192_195) hb; replace BK195 := bb (o := .cells #[.int .i64 t193, .int .i64 t194] 42 (0, 0)) (bkp BK195) hb; replace HB := hbb (hzs HB) hb; clear hb) | ((with_reducible refine gate_dst (N := 10) rfl ?_); refine bE 10 #[.int .i64 0, .int .i64 0] 42 ?_; intro gb199 hg w80 hbox hb; have BK199 := Aside0.mk (hbox); have GE199 := gw hg (hzs HB); have NB179_199 := nl hg (bk BK179); have NB199_179 := ng hg (bk BK179); have NB180_199 := nl hg (bk BK180); have NB199_180 := ng hg (bk BK180); have NB181_199 := nl hg (bk BK181); have NB199_181 := ng hg (bk BK181); have NB186_199 := nl hg (bk BK186); have NB199_186 := ng hg (bk BK186); have NB189_199 := nl hg (bk BK189); have NB199_189 := ng hg (bk BK189); have NB192_199 := nl hg (bk BK192); have NB199_192 := ng hg (bk BK192); have NB195_199 := nl hg (bk BK195); have NB199_195 := ng hg (bk BK195); replace BK179 := bb (bk BK179) hb; replace BK180 := bb (bk BK180) hb; replace BK181 := bb (bk BK181) hb; replace BK186 := bb (bk BK186) hb; replace BK189 := bb (bk BK189) hb; replace BK192 := bb (bk BK192) hb; replace BK195 := bb (bk BK195) hb; replace HB := hbb (hzs HB) hb; clear hb hbox hg; have hnb81 := NB199_179.out; have hnc81 := NB179_199.out; have hnb82 := NB199_180.out; have hnc82 := NB180_199.out; have hnb83 := NB199_181.out; have hnc83 := NB181_199.out; have hnb84 := NB199_186.out; have hnc84 := NB186_199.out; have hnb85 := NB199_189.out; have hnc85 := NB189_199.out; have hnb86 := NB199_192.out; have hnc86 := NB192_199.out; have hnb87 := NB199_195.out; have hnc87 := NB195_199.out; obtain ⟨hcz88_0, hcz88_1, hfz88_0, hfz88_1⟩ := cz2 BK199; obtain ⟨hcz89_0, hcz89_1, hfz89_0, hfz89_1⟩ := cz2 BK189) | ((with_reducible refine gate_callee (f := 59) rfl ?_); refine gL 58 Try.func59 #[.agg #[.int .i64 t187, .int .i64 t188], .agg #[.int .i64 t187, .int .i64 t188]] ?_; (with_reducible refine (spec_SpanMul.calls kj2 t187 t188 t187 t188 t200 t201 t202 _ A30.out).mono ?_); rintro e w90 ⟨rfl, hb⟩; refine ⟨_, rfl, ?_⟩; replace BK179 := bb (bk1 BK179 NB179_199) hb; replace BK180 := bb (bk1 BK180 NB180_199) hb; replace BK181 := bb (bk1 BK181 NB181_199) hb; replace BK186 := bb (bk1 BK186 NB186_199) hb; replace BK189 := bb (bk1 BK189 NB189_199) hb; replace BK192 := bb (bk1 BK192 NB192_199) hb; replace BK195 := bb (bk1 BK195 NB195_199) hb; replace BK199 := bb (o := .cells #[.int .i64 t196, .int .i64 t197] 42 (0, 0)) (bkp BK199) hb; replace HB := hbb (hzs HB) hb; clear hb) | ((with_reducible refine gate_dst (N := 12) rfl ?_); refine bE 12 #[.int .i64 0, .int .i64 0] 42 ?_; intro gb203 hg w91 hbox hb; have BK203 := Aside0.mk (hbox); have GE203 := gw hg (hzs HB); have NB179_203 := nl hg (bk BK179); have NB203_179 := ng hg (bk BK179); have NB180_203 := nl hg (bk BK180); have NB203_180 := ng hg (bk BK180); have NB181_203 := nl hg (bk BK181); have NB203_181 := ng hg (bk BK181); have NB186_203 := nl hg (bk BK186); have NB203_186 := ng hg (bk BK186); have NB189_203 := nl hg (bk BK189); have NB203_189 := ng hg (bk BK189); have NB192_203 := nl hg (bk BK192); have NB203_192 := ng hg (bk BK192); have NB195_203 := nl hg (bk BK195); have NB203_195 := ng hg (bk BK195); have NB199_203 := nl hg (bk BK199); have NB203_199 := ng hg (bk BK199); replace BK179 := bb (bk BK179) hb; replace BK180 := bb (bk BK180) hb; replace BK181 := bb (bk BK181) hb; replace BK186 := bb (bk BK186) hb; replace BK189 := bb (bk BK189) hb; replace BK192 := bb (bk BK192) hb; replace BK195 := bb (bk BK195) hb; replace BK199 := bb (bk BK199) hb; replace HB := hbb (hzs HB) hb; clear hb hbox hg; have hnb92 := NB203_179.out; have hnc92 := NB179_203.out; have hnb93 := NB203_180.out; have hnc93 := NB180_203.out; have hnb94 := NB203_181.out; have hnc94 := NB181_203.out; have hnb95 := NB203_186.out; have hnc95 := NB186_203.out; have hnb96 := NB203_189.out; have hnc96 := NB189_203.out; have hnb97 := NB203_192.out; have hnc97 := NB192_203.out; have hnb98 := NB203_195.out; have hnc98 := NB195_203.out; have hnb99 := NB203_199.out; have hnc99 := NB199_203.out; obtain ⟨hcz100_0, hcz100_1, hfz100_0, hfz100_1⟩ := cz2 BK203))
    have n0_ : Aside0 (((w91.setCell ⟨gb203, 0, none⟩ (.int .i64 t200)).setCell ⟨gb203, 1, none⟩ (.int .i64 t201)).heap[gb179]? = some (.cells #[.int .i64 a0_0, .int .i64 a0_1] 24 (0, 0))) := ⟨bk1 BK179 NB179_203⟩
    have n1_ : Aside0 (((w91.setCell ⟨gb203, 0, none⟩ (.int .i64 t200)).setCell ⟨gb203, 1, none⟩ (.int .i64 t201)).heap[gb180]? = some (.cells #[.int .i64 a1_0, .int .i64 a1_1] 24 (0, 0))) := ⟨bk1 BK180 NB180_203⟩
    have n2_ : Aside0 (((w91.setCell ⟨gb203, 0, none⟩ (.int .i64 t200)).setCell ⟨gb203, 1, none⟩ (.int .i64 t201)).heap[gb181]? = some (.cells #[.int .i64 0, .int .i64 0] 42 (0, 0))) := ⟨bk1 BK181 NB181_203⟩
    have n3_ : Aside0 (((w91.setCell ⟨gb203, 0, none⟩ (.int .i64 t200)).setCell ⟨gb203, 1, none⟩ (.int .i64 t201)).heap[gb186]? = some (.cells #[.int .i64 t184, .int .i64 t185] 42 (0, 0))) := ⟨bk1 BK186 NB186_203⟩
    have n4_ : Aside0 (((w91.setCell ⟨gb203, 0, none⟩ (.int .i64 t200)).setCell ⟨gb203, 1, none⟩ (.int .i64 t201)).heap[gb189]? = some (.cells #[.int .i64 t187, .int .i64 t188] 42 (0, 0))) := ⟨bk1 BK189 NB189_203⟩
    have n5_ : Aside0 (((w91.setCell ⟨gb203, 0, none⟩ (.int .i64 t200)).setCell ⟨gb203, 1, none⟩ (.int .i64 t201)).heap[gb192]? = some (.cells #[.int .i64 t190, .int .i64 t191] 42 (0, 0))) := ⟨bk1 BK192 NB192_203⟩
    have n6_ : Aside0 (((w91.setCell ⟨gb203, 0, none⟩ (.int .i64 t200)).setCell ⟨gb203, 1, none⟩ (.int .i64 t201)).heap[gb195]? = some (.cells #[.int .i64 t193, .int .i64 t194] 42 (0, 0))) := ⟨bk1 BK195 NB195_203⟩
    have n7_ : Aside0 (((w91.setCell ⟨gb203, 0, none⟩ (.int .i64 t200)).setCell ⟨gb203, 1, none⟩ (.int .i64 t201)).heap[gb199]? = some (.cells #[.int .i64 t196, .int .i64 t197] 42 (0, 0))) := ⟨bk1 BK199 NB199_203⟩
    have n8_ : Aside0 (((w91.setCell ⟨gb203, 0, none⟩ (.int .i64 t200)).setCell ⟨gb203, 1, none⟩ (.int .i64 t201)).heap[gb203]? = some (.cells #[.int .i64 t200, .int .i64 t201] 42 (0, 0))) := ⟨bkp BK203⟩
    have n9_ : Aside0 (Below w.heap.size w ((w91.setCell ⟨gb203, 0, none⟩ (.int .i64 t200)).setCell ⟨gb203, 1, none⟩ (.int .i64 t201))) := ⟨hzs HB⟩
    (try clear BK179)
    (try clear BK180)
    (try clear BK181)
    (try clear BK186)
    (try clear BK189)
    (try clear BK192)
    (try clear BK195)
    (try clear BK199)
    (try clear BK203)
    (try clear HB)
    generalize ((w91.setCell ⟨gb203, 0, none⟩ (.int .i64 t200)).setCell ⟨gb203, 1, none⟩ (.int .i64 t201)) = w101 at n0_ n1_ n2_ n3_ n4_ n5_ n6_ n7_ n8_ n9_ ⊢
    have BK179 := n0_
    have BK180 := n1_
    have BK181 := n2_
    have BK186 := n3_
    have BK189 := n4_
    have BK192 := n5_
    have BK195 := n6_
    have BK199 := n7_
    have BK203 := n8_
    have HB := n9_
    clear n0_ n1_ n2_ n3_ n4_ n5_ n6_ n7_ n8_ n9_
    replace BK179 := Aside0.mk (blk_drew BK179.out)
    replace BK180 := Aside0.mk (blk_drew BK180.out)
    replace BK181 := Aside0.mk (blk_drew BK181.out)
    replace BK186 := Aside0.mk (blk_drew BK186.out)
    replace BK189 := Aside0.mk (blk_drew BK189.out)
    replace BK192 := Aside0.mk (blk_drew BK192.out)
    replace BK195 := Aside0.mk (blk_drew BK195.out)
    replace BK199 := Aside0.mk (blk_drew BK199.out)
    replace BK203 := Aside0.mk (blk_drew BK203.out)
    replace HB := Aside0.mk (below_drew1 HB.out)
    refine start_ (n := 11) (S := fun w' => w'.cell? ⟨gb192, 0, none⟩ = some (.int .i64 t190) ∧ w'.cell? ⟨gb192, 1, none⟩ = some (.int .i64 t191) ∧ w'.cell? ⟨gb195, 0, none⟩ = some (.int .i64 t193) ∧ w'.cell? ⟨gb195, 1, none⟩ = some (.int .i64 t194)) (ds := []) #[false, false, false, false, false, false, false, false, false, false, false] (by kernel_rfl) rfl rfl ⟨cw0 BK192, cw1 BK192, cw0 BK195, cw1 BK195⟩ (fun hHeld => ?_); refine with_tabW spec_SpotSquare.tab9 spec_SpotSquare.bits9 (fun HT_ HW_ => ?_)
    generalize w101.drew = w102 at BK179 BK180 BK181 BK186 BK189 BK192 BK195 BK199 BK203 HB hHeld ⊢
    refine take_ (i := 0) (N := some 62) (v := ?_) (a' := ?_) #[true, false, false, false, false, false, false, false, false, false, false] rfl rfl (take_ofW HT_.out HW_.out (by kernel_rfl)) (fun _ _ _ h => h) (Or.inl ⟨by rfl, ?_⟩) hHeld ?_ ?_
    rotate_left
    ·rintro w' ⟨s0, s1, s2, s3⟩
     go_simp
     with_reducible rfl
    rotate_left
    ·simp only [Act.put, List.setIfInBounds_toArray, List.set_cons_zero, List.set_cons_succ, i64_w, i32_w]
     rfl
    refine take_ (i := 2) (N := some 64) (v := ?_) (a' := ?_) #[true, false, true, false, false, false, false, false, false, false, false] rfl rfl (take_ofW HT_.out HW_.out (by kernel_rfl)) (fun _ _ _ h => h) (Or.inl ⟨by rfl, ?_⟩) hHeld ?_ ?_
    rotate_left
    ·rintro w' ⟨s0, s1, s2, s3⟩
     go_simp
     with_reducible rfl
    rotate_left
    ·simp only [Act.put, List.setIfInBounds_toArray, List.set_cons_zero, List.set_cons_succ, i64_w, i32_w]
     rfl
    refine join_ (σ := Nat) 2 #[true, true, true, true, true, true, true, true, true, false, false] (fun s_ => [(63, .agg #[.int .i64 t204, .int .i64 t205]), (65, .agg #[.int .i64 t206, .int .i64 t207]), (66, .tuple #[.agg #[.int .i64 t208, .int .i64 t209], .bool t210]), (14, .pointer (some ⟨s_, 0, none⟩)), (61, .tuple #[.agg #[.int .i64 t208, .int .i64 t209], .bool t210]), (67, .agg #[.int .i64 t208, .int .i64 t209]), (68, .bool t210)]) (fun s_ w' => (w'.cell? ⟨gb192, 0, none⟩ = some (.int .i64 t190) ∧ w'.cell? ⟨gb192, 1, none⟩ = some (.int .i64 t191) ∧ w'.cell? ⟨gb195, 0, none⟩ = some (.int .i64 t193) ∧ w'.cell? ⟨gb195, 1, none⟩ = some (.int .i64 t194)) ∧ (w'.heap[gb179]? = some (.cells #[.int .i64 a0_0, .int .i64 a0_1] 24 (0, 0))) ∧ (w'.heap[gb180]? = some (.cells #[.int .i64 a1_0, .int .i64 a1_1] 24 (0, 0))) ∧ (w'.heap[gb181]? = some (.cells #[.int .i64 0, .int .i64 0] 42 (0, 0))) ∧ (w'.heap[gb186]? = some (.cells #[.int .i64 t184, .int .i64 t185] 42 (0, 0))) ∧ (w'.heap[gb189]? = some (.cells #[.int .i64 t187, .int .i64 t188] 42 (0, 0))) ∧ (w'.heap[gb192]? = some (.cells #[.int .i64 t190, .int .i64 t191] 42 (0, 0))) ∧ (w'.heap[gb195]? = some (.cells #[.int .i64 t193, .int .i64 t194] 42 (0, 0))) ∧ (w'.heap[gb199]? = some (.cells #[.int .i64 t196, .int .i64 t197] 42 (0, 0))) ∧ (w'.heap[gb203]? = some (.cells #[.int .i64 t200, .int .i64 t201] 42 (0, 0))) ∧ (w'.heap[s_]? = some (.cells #[.int .i64 0, .int .i64 0] 42 (0, 0))) ∧ (w.heap.size ≤ s_) ∧ (w.heap.size ≤ s_) ∧ (gb179 ≠ s_) ∧ (s_ ≠ gb179) ∧ (gb180 ≠ s_) ∧ (s_ ≠ gb180) ∧ (gb181 ≠ s_) ∧ (s_ ≠ gb181) ∧ (gb186 ≠ s_) ∧ (s_ ≠ gb186) ∧ (gb189 ≠ s_) ∧ (s_ ≠ gb189) ∧ (gb192 ≠ s_) ∧ (s_ ≠ gb192) ∧ (gb195 ≠ s_) ∧ (s_ ≠ gb195) ∧ (gb199 ≠ s_) ∧ (s_ ≠ gb199) ∧ (gb203 ≠ s_) ∧ (s_ ≠ gb203) ∧ (Below w.heap.size w w')) ?_ ?_
    rotate_left
    ·intro hCont
     refine tW 1 8 63 14 #[true, true, true, false, false, false, false, false, false, false, false] #[true, false, true, false, false, false, false, false, true, false, false] HT_ (fun K hK => ?_) (fun K hK => ?_)
     ·skip
      refine gS Try.func60 #[.agg #[.int .i64 t190, .int .i64 t191]] ?_
      with_reducible refine (spec_l21Clip.calls t190 t191 t204 t205 _ A31.out).mono ?_
      rintro e w103 ⟨rfl, hb⟩
      refine ⟨_, rfl, ?_⟩
      replace BK179 := bb (bk BK179) hb
      replace BK180 := bb (bk BK180) hb
      replace BK181 := bb (bk BK181) hb
      replace BK186 := bb (bk BK186) hb
      replace BK189 := bb (bk BK189) hb
      replace BK192 := bb (bk BK192) hb
      replace BK195 := bb (bk BK195) hb
      replace BK199 := bb (bk BK199) hb
      replace BK203 := bb (bk BK203) hb
      replace HB := hbb (hzs HB) hb
      clear hb
      refine hK.out _ _ ⟨cw0 BK192, cw1 BK192, cw0 BK195, cw1 BK195⟩ (fun hHeld => ?_)
      clear hK K
      refine nP ?_
      refine tW 3 8 65 14 #[true, true, true, true, false, false, false, false, false, false, false] #[true, true, true, false, false, false, false, false, true, false, false] HT_ (fun K hK => ?_) (fun K hK => ?_)
      ·skip
       refine gS Try.func60 #[.agg #[.int .i64 t193, .int .i64 t194]] ?_
       with_reducible refine (spec_l21Clip.calls t193 t194 t206 t207 _ A32.out).mono ?_
       rintro e w104 ⟨rfl, hb⟩
       refine ⟨_, rfl, ?_⟩
       replace BK179 := bb (bk BK179) hb
       replace BK180 := bb (bk BK180) hb
       replace BK181 := bb (bk BK181) hb
       replace BK186 := bb (bk BK186) hb
       replace BK189 := bb (bk BK189) hb
       replace BK192 := bb (bk BK192) hb
       replace BK195 := bb (bk BK195) hb
       replace BK199 := bb (bk BK199) hb
       replace BK203 := bb (bk BK203) hb
       replace HB := hbb (hzs HB) hb
       clear hb
       refine hK.out _ _ ⟨cw0 BK192, cw1 BK192, cw0 BK195, cw1 BK195⟩ (fun hHeld => ?_)
       clear hK K
       refine nP ?_
       refine tW 4 8 66 14 #[true, true, true, true, true, false, false, false, false, false, false] #[true, true, true, true, false, false, false, false, true, false, false] HT_ (fun K hK => ?_) (fun K hK => ?_)
       ·skip
        refine gS Try.func59 #[.agg #[.int .i64 t204, .int .i64 t205], .agg #[.int .i64 t206, .int .i64 t207]] ?_
        with_reducible refine (spec_SpanMul.calls kj2 t204 t205 t206 t207 t208 t209 t210 _ A33.out).mono ?_
        rintro e w105 ⟨rfl, hb⟩
        refine ⟨_, rfl, ?_⟩
        replace BK179 := bb (bk BK179) hb
        replace BK180 := bb (bk BK180) hb
        replace BK181 := bb (bk BK181) hb
        replace BK186 := bb (bk BK186) hb
        replace BK189 := bb (bk BK189) hb
        replace BK192 := bb (bk BK192) hb
        replace BK195 := bb (bk BK195) hb
        replace BK199 := bb (bk BK199) hb
        replace BK203 := bb (bk BK203) hb
        replace HB := hbb (hzs HB) hb
        clear hb
        refine hK.out _ _ ⟨cw0 BK192, cw1 BK192, cw0 BK195, cw1 BK195⟩ (fun hHeld => ?_)
        clear hK K
        refine nP ?_
        refine pU 5 61 #[true, true, true, true, true, true, false, false, false, false, false] HT_ ?_
        refine pU 6 67 #[true, true, true, true, true, true, true, false, false, false, false] HT_ ?_
        refine pU 7 68 #[true, true, true, true, true, true, true, true, false, false, false] HT_ ?_
        refine oN 8 14 #[true, true, true, true, true, true, true, true, true, false, false] HT_ (fun K hK => ?_)
        refine bS 14 #[.int .i64 0, .int .i64 0] 42 ?_
        intro gb211 hg w106 hbox hb
        have BK211 := Aside0.mk (hbox)
        have GE211 := gw hg (hzs HB)
        have GW211 := GE211
        have NB179_211 := nl hg (bk BK179)
        have NB211_179 := ng hg (bk BK179)
        have NB180_211 := nl hg (bk BK180)
        have NB211_180 := ng hg (bk BK180)
        have NB181_211 := nl hg (bk BK181)
        have NB211_181 := ng hg (bk BK181)
        have NB186_211 := nl hg (bk BK186)
        have NB211_186 := ng hg (bk BK186)
        have NB189_211 := nl hg (bk BK189)
        have NB211_189 := ng hg (bk BK189)
        have NB192_211 := nl hg (bk BK192)
        have NB211_192 := ng hg (bk BK192)
        have NB195_211 := nl hg (bk BK195)
        have NB211_195 := ng hg (bk BK195)
        have NB199_211 := nl hg (bk BK199)
        have NB211_199 := ng hg (bk BK199)
        have NB203_211 := nl hg (bk BK203)
        have NB211_203 := ng hg (bk BK203)
        replace BK179 := bb (bk BK179) hb
        replace BK180 := bb (bk BK180) hb
        replace BK181 := bb (bk BK181) hb
        replace BK186 := bb (bk BK186) hb
        replace BK189 := bb (bk BK189) hb
        replace BK192 := bb (bk BK192) hb
        replace BK195 := bb (bk BK195) hb
        replace BK199 := bb (bk BK199) hb
        replace BK203 := bb (bk BK203) hb
        replace HB := hbb (hzs HB) hb
        clear hb hbox hg
        refine hK.out _ _ ⟨cw0 BK192, cw1 BK192, cw0 BK195, cw1 BK195⟩ (fun hHeld => ?_)
        clear hK K
        refine nP ?_
        exact nm (hCont (gb211) _ ⟨hHeld, (bk BK179), (bk BK180), (bk BK181), (bk BK186), (bk BK189), (bk BK192), (bk BK195), (bk BK199), (bk BK203), (bk BK211), GW211.out, GE211.out, NB179_211.out, NB211_179.out, NB180_211.out, NB211_180.out, NB181_211.out, NB211_181.out, NB186_211.out, NB211_186.out, NB189_211.out, NB211_189.out, NB192_211.out, NB211_192.out, NB195_211.out, NB211_195.out, NB199_211.out, NB211_199.out, NB203_211.out, NB211_203.out, (hzs HB)⟩)
       ·skip
        refine bS 14 #[.int .i64 0, .int .i64 0] 42 ?_
        intro gb211 hg w105 hbox hb
        have BK211 := Aside0.mk (hbox)
        have GE211 := gw hg (hzs HB)
        have GW211 := GE211
        have NB179_211 := nl hg (bk BK179)
        have NB211_179 := ng hg (bk BK179)
        have NB180_211 := nl hg (bk BK180)
        have NB211_180 := ng hg (bk BK180)
        have NB181_211 := nl hg (bk BK181)
        have NB211_181 := ng hg (bk BK181)
        have NB186_211 := nl hg (bk BK186)
        have NB211_186 := ng hg (bk BK186)
        have NB189_211 := nl hg (bk BK189)
        have NB211_189 := ng hg (bk BK189)
        have NB192_211 := nl hg (bk BK192)
        have NB211_192 := ng hg (bk BK192)
        have NB195_211 := nl hg (bk BK195)
        have NB211_195 := ng hg (bk BK195)
        have NB199_211 := nl hg (bk BK199)
        have NB211_199 := ng hg (bk BK199)
        have NB203_211 := nl hg (bk BK203)
        have NB211_203 := ng hg (bk BK203)
        replace BK179 := bb (bk BK179) hb
        replace BK180 := bb (bk BK180) hb
        replace BK181 := bb (bk BK181) hb
        replace BK186 := bb (bk BK186) hb
        replace BK189 := bb (bk BK189) hb
        replace BK192 := bb (bk BK192) hb
        replace BK195 := bb (bk BK195) hb
        replace BK199 := bb (bk BK199) hb
        replace BK203 := bb (bk BK203) hb
        replace HB := hbb (hzs HB) hb
        clear hb hbox hg
        refine hK.out _ _ ⟨cw0 BK192, cw1 BK192, cw0 BK195, cw1 BK195⟩ (fun hHeld => ?_)
        clear hK K
        refine nP ?_
        refine oN 4 66 #[true, true, true, true, true, false, false, false, true, false, false] HT_ (fun K hK => ?_)
        refine gS Try.func59 #[.agg #[.int .i64 t204, .int .i64 t205], .agg #[.int .i64 t206, .int .i64 t207]] ?_
        with_reducible refine (spec_SpanMul.calls kj2 t204 t205 t206 t207 t208 t209 t210 _ A33.out).mono ?_
        rintro e w106 ⟨rfl, hb⟩
        refine ⟨_, rfl, ?_⟩
        replace BK179 := bb (bk BK179) hb
        replace BK180 := bb (bk BK180) hb
        replace BK181 := bb (bk BK181) hb
        replace BK186 := bb (bk BK186) hb
        replace BK189 := bb (bk BK189) hb
        replace BK192 := bb (bk BK192) hb
        replace BK195 := bb (bk BK195) hb
        replace BK199 := bb (bk BK199) hb
        replace BK203 := bb (bk BK203) hb
        replace BK211 := bb (bk BK211) hb
        replace HB := hbb (hzs HB) hb
        clear hb
        refine hK.out _ _ ⟨cw0 BK192, cw1 BK192, cw0 BK195, cw1 BK195⟩ (fun hHeld => ?_)
        clear hK K
        refine nP ?_
        refine pU 5 61 #[true, true, true, true, true, true, false, false, true, false, false] HT_ ?_
        refine pU 6 67 #[true, true, true, true, true, true, true, false, true, false, false] HT_ ?_
        refine pU 7 68 #[true, true, true, true, true, true, true, true, true, false, false] HT_ ?_
        exact nm (hCont (gb211) _ ⟨hHeld, (bk BK179), (bk BK180), (bk BK181), (bk BK186), (bk BK189), (bk BK192), (bk BK195), (bk BK199), (bk BK203), (bk BK211), GW211.out, GE211.out, NB179_211.out, NB211_179.out, NB180_211.out, NB211_180.out, NB181_211.out, NB211_181.out, NB186_211.out, NB211_186.out, NB189_211.out, NB211_189.out, NB192_211.out, NB211_192.out, NB195_211.out, NB211_195.out, NB199_211.out, NB211_199.out, NB203_211.out, NB211_203.out, (hzs HB)⟩)
      ·skip
       refine bS 14 #[.int .i64 0, .int .i64 0] 42 ?_
       intro gb211 hg w104 hbox hb
       have BK211 := Aside0.mk (hbox)
       have GE211 := gw hg (hzs HB)
       have GW211 := GE211
       have NB179_211 := nl hg (bk BK179)
       have NB211_179 := ng hg (bk BK179)
       have NB180_211 := nl hg (bk BK180)
       have NB211_180 := ng hg (bk BK180)
       have NB181_211 := nl hg (bk BK181)
       have NB211_181 := ng hg (bk BK181)
       have NB186_211 := nl hg (bk BK186)
       have NB211_186 := ng hg (bk BK186)
       have NB189_211 := nl hg (bk BK189)
       have NB211_189 := ng hg (bk BK189)
       have NB192_211 := nl hg (bk BK192)
       have NB211_192 := ng hg (bk BK192)
       have NB195_211 := nl hg (bk BK195)
       have NB211_195 := ng hg (bk BK195)
       have NB199_211 := nl hg (bk BK199)
       have NB211_199 := ng hg (bk BK199)
       have NB203_211 := nl hg (bk BK203)
       have NB211_203 := ng hg (bk BK203)
       replace BK179 := bb (bk BK179) hb
       replace BK180 := bb (bk BK180) hb
       replace BK181 := bb (bk BK181) hb
       replace BK186 := bb (bk BK186) hb
       replace BK189 := bb (bk BK189) hb
       replace BK192 := bb (bk BK192) hb
       replace BK195 := bb (bk BK195) hb
       replace BK199 := bb (bk BK199) hb
       replace BK203 := bb (bk BK203) hb
       replace HB := hbb (hzs HB) hb
       clear hb hbox hg
       refine hK.out _ _ ⟨cw0 BK192, cw1 BK192, cw0 BK195, cw1 BK195⟩ (fun hHeld => ?_)
       clear hK K
       refine nP ?_
       refine oN 3 65 #[true, true, true, true, false, false, false, false, true, false, false] HT_ (fun K hK => ?_)
       refine gS Try.func60 #[.agg #[.int .i64 t193, .int .i64 t194]] ?_
       with_reducible refine (spec_l21Clip.calls t193 t194 t206 t207 _ A32.out).mono ?_
       rintro e w105 ⟨rfl, hb⟩
       refine ⟨_, rfl, ?_⟩
       replace BK179 := bb (bk BK179) hb
       replace BK180 := bb (bk BK180) hb
       replace BK181 := bb (bk BK181) hb
       replace BK186 := bb (bk BK186) hb
       replace BK189 := bb (bk BK189) hb
       replace BK192 := bb (bk BK192) hb
       replace BK195 := bb (bk BK195) hb
       replace BK199 := bb (bk BK199) hb
       replace BK203 := bb (bk BK203) hb
       replace BK211 := bb (bk BK211) hb
       replace HB := hbb (hzs HB) hb
       clear hb
       refine hK.out _ _ ⟨cw0 BK192, cw1 BK192, cw0 BK195, cw1 BK195⟩ (fun hHeld => ?_)
       clear hK K
       refine nP ?_
       refine oN 4 66 #[true, true, true, true, true, false, false, false, true, false, false] HT_ (fun K hK => ?_)
       refine gS Try.func59 #[.agg #[.int .i64 t204, .int .i64 t205], .agg #[.int .i64 t206, .int .i64 t207]] ?_
       with_reducible refine (spec_SpanMul.calls kj2 t204 t205 t206 t207 t208 t209 t210 _ A33.out).mono ?_
       rintro e w106 ⟨rfl, hb⟩
       refine ⟨_, rfl, ?_⟩
       replace BK179 := bb (bk BK179) hb
       replace BK180 := bb (bk BK180) hb
       replace BK181 := bb (bk BK181) hb
       replace BK186 := bb (bk BK186) hb
       replace BK189 := bb (bk BK189) hb
       replace BK192 := bb (bk BK192) hb
       replace BK195 := bb (bk BK195) hb
       replace BK199 := bb (bk BK199) hb
       replace BK203 := bb (bk BK203) hb
       replace BK211 := bb (bk BK211) hb
       replace HB := hbb (hzs HB) hb
       clear hb
       refine hK.out _ _ ⟨cw0 BK192, cw1 BK192, cw0 BK195, cw1 BK195⟩ (fun hHeld => ?_)
       clear hK K
       refine nP ?_
       refine pU 5 61 #[true, true, true, true, true, true, false, false, true, false, false] HT_ ?_
       refine pU 6 67 #[true, true, true, true, true, true, true, false, true, false, false] HT_ ?_
       refine pU 7 68 #[true, true, true, true, true, true, true, true, true, false, false] HT_ ?_
       exact nm (hCont (gb211) _ ⟨hHeld, (bk BK179), (bk BK180), (bk BK181), (bk BK186), (bk BK189), (bk BK192), (bk BK195), (bk BK199), (bk BK203), (bk BK211), GW211.out, GE211.out, NB179_211.out, NB211_179.out, NB180_211.out, NB211_180.out, NB181_211.out, NB211_181.out, NB186_211.out, NB211_186.out, NB189_211.out, NB211_189.out, NB192_211.out, NB211_192.out, NB195_211.out, NB211_195.out, NB199_211.out, NB211_199.out, NB203_211.out, NB211_203.out, (hzs HB)⟩)
     ·skip
      refine bS 14 #[.int .i64 0, .int .i64 0] 42 ?_
      intro gb211 hg w103 hbox hb
      have BK211 := Aside0.mk (hbox)
      have GE211 := gw hg (hzs HB)
      have GW211 := GE211
      have NB179_211 := nl hg (bk BK179)
      have NB211_179 := ng hg (bk BK179)
      have NB180_211 := nl hg (bk BK180)
      have NB211_180 := ng hg (bk BK180)
      have NB181_211 := nl hg (bk BK181)
      have NB211_181 := ng hg (bk BK181)
      have NB186_211 := nl hg (bk BK186)
      have NB211_186 := ng hg (bk BK186)
      have NB189_211 := nl hg (bk BK189)
      have NB211_189 := ng hg (bk BK189)
      have NB192_211 := nl hg (bk BK192)
      have NB211_192 := ng hg (bk BK192)
      have NB195_211 := nl hg (bk BK195)
      have NB211_195 := ng hg (bk BK195)
      have NB199_211 := nl hg (bk BK199)
      have NB211_199 := ng hg (bk BK199)
      have NB203_211 := nl hg (bk BK203)
      have NB211_203 := ng hg (bk BK203)
      replace BK179 := bb (bk BK179) hb
      replace BK180 := bb (bk BK180) hb
      replace BK181 := bb (bk BK181) hb
      replace BK186 := bb (bk BK186) hb
      replace BK189 := bb (bk BK189) hb
      replace BK192 := bb (bk BK192) hb
      replace BK195 := bb (bk BK195) hb
      replace BK199 := bb (bk BK199) hb
      replace BK203 := bb (bk BK203) hb
      replace HB := hbb (hzs HB) hb
      clear hb hbox hg
      refine hK.out _ _ ⟨cw0 BK192, cw1 BK192, cw0 BK195, cw1 BK195⟩ (fun hHeld => ?_)
      clear hK K
      refine nP ?_
      refine oN 1 63 #[true, true, true, false, false, false, false, false, true, false, false] HT_ (fun K hK => ?_)
      refine gS Try.func60 #[.agg #[.int .i64 t190, .int .i64 t191]] ?_
      with_reducible refine (spec_l21Clip.calls t190 t191 t204 t205 _ A31.out).mono ?_
      rintro e w104 ⟨rfl, hb⟩
      refine ⟨_, rfl, ?_⟩
      replace BK179 := bb (bk BK179) hb
      replace BK180 := bb (bk BK180) hb
      replace BK181 := bb (bk BK181) hb
      replace BK186 := bb (bk BK186) hb
      replace BK189 := bb (bk BK189) hb
      replace BK192 := bb (bk BK192) hb
      replace BK195 := bb (bk BK195) hb
      replace BK199 := bb (bk BK199) hb
      replace BK203 := bb (bk BK203) hb
      replace BK211 := bb (bk BK211) hb
      replace HB := hbb (hzs HB) hb
      clear hb
      refine hK.out _ _ ⟨cw0 BK192, cw1 BK192, cw0 BK195, cw1 BK195⟩ (fun hHeld => ?_)
      clear hK K
      refine nP ?_
      refine oN 3 65 #[true, true, true, true, false, false, false, false, true, false, false] HT_ (fun K hK => ?_)
      refine gS Try.func60 #[.agg #[.int .i64 t193, .int .i64 t194]] ?_
      with_reducible refine (spec_l21Clip.calls t193 t194 t206 t207 _ A32.out).mono ?_
      rintro e w105 ⟨rfl, hb⟩
      refine ⟨_, rfl, ?_⟩
      replace BK179 := bb (bk BK179) hb
      replace BK180 := bb (bk BK180) hb
      replace BK181 := bb (bk BK181) hb
      replace BK186 := bb (bk BK186) hb
      replace BK189 := bb (bk BK189) hb
      replace BK192 := bb (bk BK192) hb
      replace BK195 := bb (bk BK195) hb
      replace BK199 := bb (bk BK199) hb
      replace BK203 := bb (bk BK203) hb
      replace BK211 := bb (bk BK211) hb
      replace HB := hbb (hzs HB) hb
      clear hb
      refine hK.out _ _ ⟨cw0 BK192, cw1 BK192, cw0 BK195, cw1 BK195⟩ (fun hHeld => ?_)
      clear hK K
      refine nP ?_
      refine oN 4 66 #[true, true, true, true, true, false, false, false, true, false, false] HT_ (fun K hK => ?_)
      refine gS Try.func59 #[.agg #[.int .i64 t204, .int .i64 t205], .agg #[.int .i64 t206, .int .i64 t207]] ?_
      with_reducible refine (spec_SpanMul.calls kj2 t204 t205 t206 t207 t208 t209 t210 _ A33.out).mono ?_
      rintro e w106 ⟨rfl, hb⟩
      refine ⟨_, rfl, ?_⟩
      replace BK179 := bb (bk BK179) hb
      replace BK180 := bb (bk BK180) hb
      replace BK181 := bb (bk BK181) hb
      replace BK186 := bb (bk BK186) hb
      replace BK189 := bb (bk BK189) hb
      replace BK192 := bb (bk BK192) hb
      replace BK195 := bb (bk BK195) hb
      replace BK199 := bb (bk BK199) hb
      replace BK203 := bb (bk BK203) hb
      replace BK211 := bb (bk BK211) hb
      replace HB := hbb (hzs HB) hb
      clear hb
      refine hK.out _ _ ⟨cw0 BK192, cw1 BK192, cw0 BK195, cw1 BK195⟩ (fun hHeld => ?_)
      clear hK K
      refine nP ?_
      refine pU 5 61 #[true, true, true, true, true, true, false, false, true, false, false] HT_ ?_
      refine pU 6 67 #[true, true, true, true, true, true, true, false, true, false, false] HT_ ?_
      refine pU 7 68 #[true, true, true, true, true, true, true, true, true, false, false] HT_ ?_
      exact nm (hCont (gb211) _ ⟨hHeld, (bk BK179), (bk BK180), (bk BK181), (bk BK186), (bk BK189), (bk BK192), (bk BK195), (bk BK199), (bk BK203), (bk BK211), GW211.out, GE211.out, NB179_211.out, NB211_179.out, NB180_211.out, NB211_180.out, NB181_211.out, NB211_181.out, NB186_211.out, NB211_186.out, NB189_211.out, NB211_189.out, NB192_211.out, NB211_192.out, NB195_211.out, NB211_195.out, NB199_211.out, NB211_199.out, NB203_211.out, NB211_203.out, (hzs HB)⟩)
    rintro gb211 w107 ⟨hS_, h0_, h1_, h2_, h3_, h4_, h5_, h6_, h7_, h8_, h9_, h10_, h11_, h12_, h13_, h14_, h15_, h16_, h17_, h18_, h19_, h20_, h21_, h22_, h23_, h24_, h25_, h26_, h27_, h28_, h29_, h30_⟩
    replace BK179 := Aside0.mk h0_
    replace BK180 := Aside0.mk h1_
    replace BK181 := Aside0.mk h2_
    replace BK186 := Aside0.mk h3_
    replace BK189 := Aside0.mk h4_
    replace BK192 := Aside0.mk h5_
    replace BK195 := Aside0.mk h6_
    replace BK199 := Aside0.mk h7_
    replace BK203 := Aside0.mk h8_
    have BK211 := Aside0.mk h9_
    have GW211 := Aside0.mk h10_
    have GE211 := Aside0.mk h11_
    have NB179_211 := Aside0.mk h12_
    have NB211_179 := Aside0.mk h13_
    have NB180_211 := Aside0.mk h14_
    have NB211_180 := Aside0.mk h15_
    have NB181_211 := Aside0.mk h16_
    have NB211_181 := Aside0.mk h17_
    have NB186_211 := Aside0.mk h18_
    have NB211_186 := Aside0.mk h19_
    have NB189_211 := Aside0.mk h20_
    have NB211_189 := Aside0.mk h21_
    have NB192_211 := Aside0.mk h22_
    have NB211_192 := Aside0.mk h23_
    have NB195_211 := Aside0.mk h24_
    have NB211_195 := Aside0.mk h25_
    have NB199_211 := Aside0.mk h26_
    have NB211_199 := Aside0.mk h27_
    have NB203_211 := Aside0.mk h28_
    have NB211_203 := Aside0.mk h29_
    replace HB := Aside0.mk h30_
    clear h0_ h1_ h2_ h3_ h4_ h5_ h6_ h7_ h8_ h9_ h10_ h11_ h12_ h13_ h14_ h15_ h16_ h17_ h18_ h19_ h20_ h21_ h22_ h23_ h24_ h25_ h26_ h27_ h28_ h29_ h30_
    have hHeld : w107.cell? ⟨gb192, 0, none⟩ = some (.int .i64 t190) ∧ w107.cell? ⟨gb192, 1, none⟩ = some (.int .i64 t191) ∧ w107.cell? ⟨gb195, 0, none⟩ = some (.int .i64 t193) ∧ w107.cell? ⟨gb195, 1, none⟩ = some (.int .i64 t194) := hS_
    refine norm_ (a' := ?_) ?_ ?_
    rotate_left
    ·simp only [putAll, Act.put, List.setIfInBounds_toArray, List.set_cons_zero, List.set_cons_succ]
     rfl
    refine one_ (i := 9) (N := none) #[true, true, true, true, true, true, true, true, true, true, false] rfl rfl (one_of HT_.out (by kernel_rfl)) (by decide) (fun K hK => ?_)
    have hs108 : w107.cell? ⟨gb211, 0, none⟩ = some (.int .i64 0) := (blk_cell BK211.out 0).trans rfl
    have hfs108 := blk_frozen BK211.out 0
    have hns108_0 := NB179_211.out
    have hns108_1 := NB180_211.out
    have hns108_2 := NB181_211.out
    have hns108_3 := NB186_211.out
    have hns108_4 := NB189_211.out
    have hns108_5 := NB192_211.out
    have hns108_6 := NB195_211.out
    have hns108_7 := NB199_211.out
    have hns108_8 := NB203_211.out
    have hms108_0 := NB211_179.out
    have hms108_1 := NB211_180.out
    have hms108_2 := NB211_181.out
    have hms108_3 := NB211_186.out
    have hms108_4 := NB211_189.out
    have hms108_5 := NB211_192.out
    have hms108_6 := NB211_195.out
    have hms108_7 := NB211_199.out
    have hms108_8 := NB211_203.out
    have hs109 : w107.cell? ⟨gb211, 1, none⟩ = some (.int .i64 0) := (blk_cell BK211.out 1).trans rfl
    have hfs109 := blk_frozen BK211.out 1
    have hns109_0 := NB179_211.out
    have hns109_1 := NB180_211.out
    have hns109_2 := NB181_211.out
    have hns109_3 := NB186_211.out
    have hns109_4 := NB189_211.out
    have hns109_5 := NB192_211.out
    have hns109_6 := NB195_211.out
    have hns109_7 := NB199_211.out
    have hns109_8 := NB203_211.out
    have hms109_0 := NB211_179.out
    have hms109_1 := NB211_180.out
    have hms109_2 := NB211_181.out
    have hms109_3 := NB211_186.out
    have hms109_4 := NB211_189.out
    have hms109_5 := NB211_192.out
    have hms109_6 := NB211_195.out
    have hms109_7 := NB211_199.out
    have hms109_8 := NB211_203.out
    refine skip_ (w1 := ?_) (by rfl) rfl ?_ ?_
    rotate_left
    ·go_simp
     rfl
    refine hK.out _ _ ⟨((cell_far (p := ⟨gb211, _, none⟩) NB192_211.out _).trans (((cell_far (p := ⟨gb211, _, none⟩) NB192_211.out _).trans (hHeld.1)))), ((cell_far (p := ⟨gb211, _, none⟩) NB192_211.out _).trans (((cell_far (p := ⟨gb211, _, none⟩) NB192_211.out _).trans (hHeld.2.1)))), ((cell_far (p := ⟨gb211, _, none⟩) NB195_211.out _).trans (((cell_far (p := ⟨gb211, _, none⟩) NB195_211.out _).trans (hHeld.2.2.1)))), ((cell_far (p := ⟨gb211, _, none⟩) NB195_211.out _).trans (((cell_far (p := ⟨gb211, _, none⟩) NB195_211.out _).trans (hHeld.2.2.2))))⟩ (fun hHeld => ?_)
    clear hK K
    refine pU 10 15 #[true, true, true, true, true, true, true, true, true, true, true] HT_ ?_
    refine done_ (done_of HT_.out (by kernel_rfl)) ?_
    try go_wp2
    have n0_ : Aside0 (((w107.setCell ⟨gb211, 0, none⟩ (.int .i64 t208)).setCell ⟨gb211, 1, none⟩ (.int .i64 t209)).heap[gb179]? = some (.cells #[.int .i64 a0_0, .int .i64 a0_1] 24 (0, 0))) := ⟨bk1 BK179 NB179_211⟩
    have n1_ : Aside0 (((w107.setCell ⟨gb211, 0, none⟩ (.int .i64 t208)).setCell ⟨gb211, 1, none⟩ (.int .i64 t209)).heap[gb180]? = some (.cells #[.int .i64 a1_0, .int .i64 a1_1] 24 (0, 0))) := ⟨bk1 BK180 NB180_211⟩
    have n2_ : Aside0 (((w107.setCell ⟨gb211, 0, none⟩ (.int .i64 t208)).setCell ⟨gb211, 1, none⟩ (.int .i64 t209)).heap[gb181]? = some (.cells #[.int .i64 0, .int .i64 0] 42 (0, 0))) := ⟨bk1 BK181 NB181_211⟩
    have n3_ : Aside0 (((w107.setCell ⟨gb211, 0, none⟩ (.int .i64 t208)).setCell ⟨gb211, 1, none⟩ (.int .i64 t209)).heap[gb186]? = some (.cells #[.int .i64 t184, .int .i64 t185] 42 (0, 0))) := ⟨bk1 BK186 NB186_211⟩
    have n4_ : Aside0 (((w107.setCell ⟨gb211, 0, none⟩ (.int .i64 t208)).setCell ⟨gb211, 1, none⟩ (.int .i64 t209)).heap[gb189]? = some (.cells #[.int .i64 t187, .int .i64 t188] 42 (0, 0))) := ⟨bk1 BK189 NB189_211⟩
    have n5_ : Aside0 (((w107.setCell ⟨gb211, 0, none⟩ (.int .i64 t208)).setCell ⟨gb211, 1, none⟩ (.int .i64 t209)).heap[gb192]? = some (.cells #[.int .i64 t190, .int .i64 t191] 42 (0, 0))) := ⟨bk1 BK192 NB192_211⟩
    have n6_ : Aside0 (((w107.setCell ⟨gb211, 0, none⟩ (.int .i64 t208)).setCell ⟨gb211, 1, none⟩ (.int .i64 t209)).heap[gb195]? = some (.cells #[.int .i64 t193, .int .i64 t194] 42 (0, 0))) := ⟨bk1 BK195 NB195_211⟩
    have n7_ : Aside0 (((w107.setCell ⟨gb211, 0, none⟩ (.int .i64 t208)).setCell ⟨gb211, 1, none⟩ (.int .i64 t209)).heap[gb199]? = some (.cells #[.int .i64 t196, .int .i64 t197] 42 (0, 0))) := ⟨bk1 BK199 NB199_211⟩
    have n8_ : Aside0 (((w107.setCell ⟨gb211, 0, none⟩ (.int .i64 t208)).setCell ⟨gb211, 1, none⟩ (.int .i64 t209)).heap[gb203]? = some (.cells #[.int .i64 t200, .int .i64 t201] 42 (0, 0))) := ⟨bk1 BK203 NB203_211⟩
    have n9_ : Aside0 (((w107.setCell ⟨gb211, 0, none⟩ (.int .i64 t208)).setCell ⟨gb211, 1, none⟩ (.int .i64 t209)).heap[gb211]? = some (.cells #[.int .i64 t208, .int .i64 t209] 42 (0, 0))) := ⟨bkp BK211⟩
    have n10_ : Aside0 (Below w.heap.size w ((w107.setCell ⟨gb211, 0, none⟩ (.int .i64 t208)).setCell ⟨gb211, 1, none⟩ (.int .i64 t209))) := ⟨hzs HB⟩
    (try clear BK179)
    (try clear BK180)
    (try clear BK181)
    (try clear BK186)
    (try clear BK189)
    (try clear BK192)
    (try clear BK195)
    (try clear BK199)
    (try clear BK203)
    (try clear BK211)
    (try clear HB)
    generalize ((w107.setCell ⟨gb211, 0, none⟩ (.int .i64 t208)).setCell ⟨gb211, 1, none⟩ (.int .i64 t209)) = w110 at n0_ n1_ n2_ n3_ n4_ n5_ n6_ n7_ n8_ n9_ n10_ ⊢
    have BK179 := n0_
    have BK180 := n1_
    have BK181 := n2_
    have BK186 := n3_
    have BK189 := n4_
    have BK192 := n5_
    have BK195 := n6_
    have BK199 := n7_
    have BK203 := n8_
    have BK211 := n9_
    have HB := n10_
    clear n0_ n1_ n2_ n3_ n4_ n5_ n6_ n7_ n8_ n9_ n10_
    replace BK179 := Aside0.mk (blk_drew BK179.out)
    replace BK180 := Aside0.mk (blk_drew BK180.out)
    replace BK181 := Aside0.mk (blk_drew BK181.out)
    replace BK186 := Aside0.mk (blk_drew BK186.out)
    replace BK189 := Aside0.mk (blk_drew BK189.out)
    replace BK192 := Aside0.mk (blk_drew BK192.out)
    replace BK195 := Aside0.mk (blk_drew BK195.out)
    replace BK199 := Aside0.mk (blk_drew BK199.out)
    replace BK203 := Aside0.mk (blk_drew BK203.out)
    replace BK211 := Aside0.mk (blk_drew BK211.out)
    replace HB := Aside0.mk (below_drew1 HB.out)
    refine start_ (n := 11) (S := fun w' => w'.cell? ⟨gb211, 0, none⟩ = some (.int .i64 t208) ∧ w'.cell? ⟨gb211, 1, none⟩ = some (.int .i64 t209) ∧ w'.cell? ⟨gb203, 0, none⟩ = some (.int .i64 t200) ∧ w'.cell? ⟨gb203, 1, none⟩ = some (.int .i64 t201)) (ds := []) #[false, false, false, false, false, false, false, false, false, false, false] (by kernel_rfl) rfl rfl ⟨cw0 BK211, cw1 BK211, cw0 BK203, cw1 BK203⟩ (fun hHeld => ?_); refine with_tabW spec_SpotSquare.tab10 spec_SpotSquare.bits10 (fun HT_ HW_ => ?_)
    generalize w110.drew = w111 at BK179 BK180 BK181 BK186 BK189 BK192 BK195 BK199 BK203 BK211 HB hHeld ⊢
    refine take_ (i := 0) (N := some 70) (v := ?_) (a' := ?_) #[true, false, false, false, false, false, false, false, false, false, false] rfl rfl (take_ofW HT_.out HW_.out (by kernel_rfl)) (fun _ _ _ h => h) (Or.inl ⟨by rfl, ?_⟩) hHeld ?_ ?_
    rotate_left
    ·rintro w' ⟨s0, s1, s2, s3⟩
     go_simp
     with_reducible rfl
    rotate_left
    ·simp only [Act.put, List.setIfInBounds_toArray, List.set_cons_zero, List.set_cons_succ, i64_w, i32_w]
     rfl
    refine take_ (i := 2) (N := some 72) (v := ?_) (a' := ?_) #[true, false, true, false, false, false, false, false, false, false, false] rfl rfl (take_ofW HT_.out HW_.out (by kernel_rfl)) (fun _ _ _ h => h) (Or.inl ⟨by rfl, ?_⟩) hHeld ?_ ?_
    rotate_left
    ·rintro w' ⟨s0, s1, s2, s3⟩
     go_simp
     with_reducible rfl
    rotate_left
    ·simp only [Act.put, List.setIfInBounds_toArray, List.set_cons_zero, List.set_cons_succ, i64_w, i32_w]
     rfl
    refine join_ (σ := Nat) 2 #[true, true, true, true, true, true, true, true, true, false, false] (fun s_ => [(71, .agg #[.int .i64 t212, .int .i64 t213]), (73, .agg #[.int .i64 t214, .int .i64 t215]), (74, .tuple #[.agg #[.int .i64 t216, .int .i64 t217], .bool t218]), (16, .pointer (some ⟨s_, 0, none⟩)), (69, .tuple #[.agg #[.int .i64 t216, .int .i64 t217], .bool t218]), (75, .agg #[.int .i64 t216, .int .i64 t217]), (76, .bool t218)]) (fun s_ w' => (w'.cell? ⟨gb211, 0, none⟩ = some (.int .i64 t208) ∧ w'.cell? ⟨gb211, 1, none⟩ = some (.int .i64 t209) ∧ w'.cell? ⟨gb203, 0, none⟩ = some (.int .i64 t200) ∧ w'.cell? ⟨gb203, 1, none⟩ = some (.int .i64 t201)) ∧ (w'.heap[gb179]? = some (.cells #[.int .i64 a0_0, .int .i64 a0_1] 24 (0, 0))) ∧ (w'.heap[gb180]? = some (.cells #[.int .i64 a1_0, .int .i64 a1_1] 24 (0, 0))) ∧ (w'.heap[gb181]? = some (.cells #[.int .i64 0, .int .i64 0] 42 (0, 0))) ∧ (w'.heap[gb186]? = some (.cells #[.int .i64 t184, .int .i64 t185] 42 (0, 0))) ∧ (w'.heap[gb189]? = some (.cells #[.int .i64 t187, .int .i64 t188] 42 (0, 0))) ∧ (w'.heap[gb192]? = some (.cells #[.int .i64 t190, .int .i64 t191] 42 (0, 0))) ∧ (w'.heap[gb195]? = some (.cells #[.int .i64 t193, .int .i64 t194] 42 (0, 0))) ∧ (w'.heap[gb199]? = some (.cells #[.int .i64 t196, .int .i64 t197] 42 (0, 0))) ∧ (w'.heap[gb203]? = some (.cells #[.int .i64 t200, .int .i64 t201] 42 (0, 0))) ∧ (w'.heap[gb211]? = some (.cells #[.int .i64 t208, .int .i64 t209] 42 (0, 0))) ∧ (w'.heap[s_]? = some (.cells #[.int .i64 0, .int .i64 0] 42 (0, 0))) ∧ (w.heap.size ≤ s_) ∧ (w.heap.size ≤ s_) ∧ (gb179 ≠ s_) ∧ (s_ ≠ gb179) ∧ (gb180 ≠ s_) ∧ (s_ ≠ gb180) ∧ (gb181 ≠ s_) ∧ (s_ ≠ gb181) ∧ (gb186 ≠ s_) ∧ (s_ ≠ gb186) ∧ (gb189 ≠ s_) ∧ (s_ ≠ gb189) ∧ (gb192 ≠ s_) ∧ (s_ ≠ gb192) ∧ (gb195 ≠ s_) ∧ (s_ ≠ gb195) ∧ (gb199 ≠ s_) ∧ (s_ ≠ gb199) ∧ (gb203 ≠ s_) ∧ (s_ ≠ gb203) ∧ (gb211 ≠ s_) ∧ (s_ ≠ gb211) ∧ (Below w.heap.size w w')) ?_ ?_
    rotate_left
    ·intro hCont
     refine tW 1 8 71 16 #[true, true, true, false, false, false, false, false, false, false, false] #[true, false, true, false, false, false, false, false, true, false, false] HT_ (fun K hK => ?_) (fun K hK => ?_)
     ·skip
      refine gS Try.func60 #[.agg #[.int .i64 t208, .int .i64 t209]] ?_
      with_reducible refine (spec_l21Clip.calls t208 t209 t212 t213 _ A34.out).mono ?_
      rintro e w112 ⟨rfl, hb⟩
      refine ⟨_, rfl, ?_⟩
      replace BK179 := bb (bk BK179) hb
      replace BK180 := bb (bk BK180) hb
      replace BK181 := bb (bk BK181) hb
      replace BK186 := bb (bk BK186) hb
      replace BK189 := bb (bk BK189) hb
      replace BK192 := bb (bk BK192) hb
      replace BK195 := bb (bk BK195) hb
      replace BK199 := bb (bk BK199) hb
      replace BK203 := bb (bk BK203) hb
      replace BK211 := bb (bk BK211) hb
      replace HB := hbb (hzs HB) hb
      clear hb
      refine hK.out _ _ ⟨cw0 BK211, cw1 BK211, cw0 BK203, cw1 BK203⟩ (fun hHeld => ?_)
      clear hK K
      refine nP ?_
      refine tW 3 8 73 16 #[true, true, true, true, false, false, false, false, false, false, false] #[true, true, true, false, false, false, false, false, true, false, false] HT_ (fun K hK => ?_) (fun K hK => ?_)
      ·skip
       refine gS Try.func60 #[.agg #[.int .i64 t200, .int .i64 t201]] ?_
       with_reducible refine (spec_l21Clip.calls t200 t201 t214 t215 _ A35.out).mono ?_
       rintro e w113 ⟨rfl, hb⟩
       refine ⟨_, rfl, ?_⟩
       replace BK179 := bb (bk BK179) hb
       replace BK180 := bb (bk BK180) hb
       replace BK181 := bb (bk BK181) hb
       replace BK186 := bb (bk BK186) hb
       replace BK189 := bb (bk BK189) hb
       replace BK192 := bb (bk BK192) hb
       replace BK195 := bb (bk BK195) hb
       replace BK199 := bb (bk BK199) hb
       replace BK203 := bb (bk BK203) hb
       replace BK211 := bb (bk BK211) hb
       replace HB := hbb (hzs HB) hb
       clear hb
       refine hK.out _ _ ⟨cw0 BK211, cw1 BK211, cw0 BK203, cw1 BK203⟩ (fun hHeld => ?_)
       clear hK K
       refine nP ?_
       refine tW 4 8 74 16 #[true, true, true, true, true, false, false, false, false, false, false] #[true, true, true, true, false, false, false, false, true, false, false] HT_ (fun K hK => ?_) (fun K hK => ?_)
       ·skip
        refine gS Try.func59 #[.agg #[.int .i64 t212, .int .i64 t213], .agg #[.int .i64 t214, .int .i64 t215]] ?_
        with_reducible refine (spec_SpanMul.calls kj2 t212 t213 t214 t215 t216 t217 t218 _ A36.out).mono ?_
        rintro e w114 ⟨rfl, hb⟩
        refine ⟨_, rfl, ?_⟩
        replace BK179 := bb (bk BK179) hb
        replace BK180 := bb (bk BK180) hb
        replace BK181 := bb (bk BK181) hb
        replace BK186 := bb (bk BK186) hb
        replace BK189 := bb (bk BK189) hb
        replace BK192 := bb (bk BK192) hb
        replace BK195 := bb (bk BK195) hb
        replace BK199 := bb (bk BK199) hb
        replace BK203 := bb (bk BK203) hb
        replace BK211 := bb (bk BK211) hb
        replace HB := hbb (hzs HB) hb
        clear hb
        refine hK.out _ _ ⟨cw0 BK211, cw1 BK211, cw0 BK203, cw1 BK203⟩ (fun hHeld => ?_)
        clear hK K
        refine nP ?_
        refine pU 5 69 #[true, true, true, true, true, true, false, false, false, false, false] HT_ ?_
        refine pU 6 75 #[true, true, true, true, true, true, true, false, false, false, false] HT_ ?_
        refine pU 7 76 #[true, true, true, true, true, true, true, true, false, false, false] HT_ ?_
        refine oN 8 16 #[true, true, true, true, true, true, true, true, true, false, false] HT_ (fun K hK => ?_)
        refine bS 16 #[.int .i64 0, .int .i64 0] 42 ?_
        intro gb219 hg w115 hbox hb
        have BK219 := Aside0.mk (hbox)
        have GE219 := gw hg (hzs HB)
        have GW219 := GE219
        have NB179_219 := nl hg (bk BK179)
        have NB219_179 := ng hg (bk BK179)
        have NB180_219 := nl hg (bk BK180)
        have NB219_180 := ng hg (bk BK180)
        have NB181_219 := nl hg (bk BK181)
        have NB219_181 := ng hg (bk BK181)
        have NB186_219 := nl hg (bk BK186)
        have NB219_186 := ng hg (bk BK186)
        have NB189_219 := nl hg (bk BK189)
        have NB219_189 := ng hg (bk BK189)
        have NB192_219 := nl hg (bk BK192)
        have NB219_192 := ng hg (bk BK192)
        have NB195_219 := nl hg (bk BK195)
        have NB219_195 := ng hg (bk BK195)
        have NB199_219 := nl hg (bk BK199)
        have NB219_199 := ng hg (bk BK199)
        have NB203_219 := nl hg (bk BK203)
        have NB219_203 := ng hg (bk BK203)
        have NB211_219 := nl hg (bk BK211)
        have NB219_211 := ng hg (bk BK211)
        replace BK179 := bb (bk BK179) hb
        replace BK180 := bb (bk BK180) hb
        replace BK181 := bb (bk BK181) hb
        replace BK186 := bb (bk BK186) hb
        replace BK189 := bb (bk BK189) hb
        replace BK192 := bb (bk BK192) hb
        replace BK195 := bb (bk BK195) hb
        replace BK199 := bb (bk BK199) hb
        replace BK203 := bb (bk BK203) hb
        replace BK211 := bb (bk BK211) hb
        replace HB := hbb (hzs HB) hb
        clear hb hbox hg
        refine hK.out _ _ ⟨cw0 BK211, cw1 BK211, cw0 BK203, cw1 BK203⟩ (fun hHeld => ?_)
        clear hK K
        refine nP ?_
        exact nm (hCont (gb219) _ ⟨hHeld, (bk BK179), (bk BK180), (bk BK181), (bk BK186), (bk BK189), (bk BK192), (bk BK195), (bk BK199), (bk BK203), (bk BK211), (bk BK219), GW219.out, GE219.out, NB179_219.out, NB219_179.out, NB180_219.out, NB219_180.out, NB181_219.out, NB219_181.out, NB186_219.out, NB219_186.out, NB189_219.out, NB219_189.out, NB192_219.out, NB219_192.out, NB195_219.out, NB219_195.out, NB199_219.out, NB219_199.out, NB203_219.out, NB219_203.out, NB211_219.out, NB219_211.out, (hzs HB)⟩)
       ·skip
        refine bS 16 #[.int .i64 0, .int .i64 0] 42 ?_
        intro gb219 hg w114 hbox hb
        have BK219 := Aside0.mk (hbox)
        have GE219 := gw hg (hzs HB)
        have GW219 := GE219
        have NB179_219 := nl hg (bk BK179)
        have NB219_179 := ng hg (bk BK179)
        have NB180_219 := nl hg (bk BK180)
        have NB219_180 := ng hg (bk BK180)
        have NB181_219 := nl hg (bk BK181)
        have NB219_181 := ng hg (bk BK181)
        have NB186_219 := nl hg (bk BK186)
        have NB219_186 := ng hg (bk BK186)
        have NB189_219 := nl hg (bk BK189)
        have NB219_189 := ng hg (bk BK189)
        have NB192_219 := nl hg (bk BK192)
        have NB219_192 := ng hg (bk BK192)
        have NB195_219 := nl hg (bk BK195)
        have NB219_195 := ng hg (bk BK195)
        have NB199_219 := nl hg (bk BK199)
        have NB219_199 := ng hg (bk BK199)
        have NB203_219 := nl hg (bk BK203)
        have NB219_203 := ng hg (bk BK203)
        have NB211_219 := nl hg (bk BK211)
        have NB219_211 := ng hg (bk BK211)
        replace BK179 := bb (bk BK179) hb
        replace BK180 := bb (bk BK180) hb
        replace BK181 := bb (bk BK181) hb
        replace BK186 := bb (bk BK186) hb
        replace BK189 := bb (bk BK189) hb
        replace BK192 := bb (bk BK192) hb
        replace BK195 := bb (bk BK195) hb
        replace BK199 := bb (bk BK199) hb
        replace BK203 := bb (bk BK203) hb
        replace BK211 := bb (bk BK211) hb
        replace HB := hbb (hzs HB) hb
        clear hb hbox hg
        refine hK.out _ _ ⟨cw0 BK211, cw1 BK211, cw0 BK203, cw1 BK203⟩ (fun hHeld => ?_)
        clear hK K
        refine nP ?_
        refine oN 4 74 #[true, true, true, true, true, false, false, false, true, false, false] HT_ (fun K hK => ?_)
        refine gS Try.func59 #[.agg #[.int .i64 t212, .int .i64 t213], .agg #[.int .i64 t214, .int .i64 t215]] ?_
        with_reducible refine (spec_SpanMul.calls kj2 t212 t213 t214 t215 t216 t217 t218 _ A36.out).mono ?_
        rintro e w115 ⟨rfl, hb⟩
        refine ⟨_, rfl, ?_⟩
        replace BK179 := bb (bk BK179) hb
        replace BK180 := bb (bk BK180) hb
        replace BK181 := bb (bk BK181) hb
        replace BK186 := bb (bk BK186) hb
        replace BK189 := bb (bk BK189) hb
        replace BK192 := bb (bk BK192) hb
        replace BK195 := bb (bk BK195) hb
        replace BK199 := bb (bk BK199) hb
        replace BK203 := bb (bk BK203) hb
        replace BK211 := bb (bk BK211) hb
        replace BK219 := bb (bk BK219) hb
        replace HB := hbb (hzs HB) hb
        clear hb
        refine hK.out _ _ ⟨cw0 BK211, cw1 BK211, cw0 BK203, cw1 BK203⟩ (fun hHeld => ?_)
        clear hK K
        refine nP ?_
        refine pU 5 69 #[true, true, true, true, true, true, false, false, true, false, false] HT_ ?_
        refine pU 6 75 #[true, true, true, true, true, true, true, false, true, false, false] HT_ ?_
        refine pU 7 76 #[true, true, true, true, true, true, true, true, true, false, false] HT_ ?_
        exact nm (hCont (gb219) _ ⟨hHeld, (bk BK179), (bk BK180), (bk BK181), (bk BK186), (bk BK189), (bk BK192), (bk BK195), (bk BK199), (bk BK203), (bk BK211), (bk BK219), GW219.out, GE219.out, NB179_219.out, NB219_179.out, NB180_219.out, NB219_180.out, NB181_219.out, NB219_181.out, NB186_219.out, NB219_186.out, NB189_219.out, NB219_189.out, NB192_219.out, NB219_192.out, NB195_219.out, NB219_195.out, NB199_219.out, NB219_199.out, NB203_219.out, NB219_203.out, NB211_219.out, NB219_211.out, (hzs HB)⟩)
      ·skip
       refine bS 16 #[.int .i64 0, .int .i64 0] 42 ?_
       intro gb219 hg w113 hbox hb
       have BK219 := Aside0.mk (hbox)
       have GE219 := gw hg (hzs HB)
       have GW219 := GE219
       have NB179_219 := nl hg (bk BK179)
       have NB219_179 := ng hg (bk BK179)
       have NB180_219 := nl hg (bk BK180)
       have NB219_180 := ng hg (bk BK180)
       have NB181_219 := nl hg (bk BK181)
       have NB219_181 := ng hg (bk BK181)
       have NB186_219 := nl hg (bk BK186)
       have NB219_186 := ng hg (bk BK186)
       have NB189_219 := nl hg (bk BK189)
       have NB219_189 := ng hg (bk BK189)
       have NB192_219 := nl hg (bk BK192)
       have NB219_192 := ng hg (bk BK192)
       have NB195_219 := nl hg (bk BK195)
       have NB219_195 := ng hg (bk BK195)
       have NB199_219 := nl hg (bk BK199)
       have NB219_199 := ng hg (bk BK199)
       have NB203_219 := nl hg (bk BK203)
       have NB219_203 := ng hg (bk BK203)
       have NB211_219 := nl hg (bk BK211)
       have NB219_211 := ng hg (bk BK211)
       replace BK179 := bb (bk BK179) hb
       replace BK180 := bb (bk BK180) hb
       replace BK181 := bb (bk BK181) hb
       replace BK186 := bb (bk BK186) hb
       replace BK189 := bb (bk BK189) hb
       replace BK192 := bb (bk BK192) hb
       replace BK195 := bb (bk BK195) hb
       replace BK199 := bb (bk BK199) hb
       replace BK203 := bb (bk BK203) hb
       replace BK211 := bb (bk BK211) hb
       replace HB := hbb (hzs HB) hb
       clear hb hbox hg
       refine hK.out _ _ ⟨cw0 BK211, cw1 BK211, cw0 BK203, cw1 BK203⟩ (fun hHeld => ?_)
       clear hK K
       refine nP ?_
       refine oN 3 73 #[true, true, true, true, false, false, false, false, true, false, false] HT_ (fun K hK => ?_)
       refine gS Try.func60 #[.agg #[.int .i64 t200, .int .i64 t201]] ?_
       with_reducible refine (spec_l21Clip.calls t200 t201 t214 t215 _ A35.out).mono ?_
       rintro e w114 ⟨rfl, hb⟩
       refine ⟨_, rfl, ?_⟩
       replace BK179 := bb (bk BK179) hb
       replace BK180 := bb (bk BK180) hb
       replace BK181 := bb (bk BK181) hb
       replace BK186 := bb (bk BK186) hb
       replace BK189 := bb (bk BK189) hb
       replace BK192 := bb (bk BK192) hb
       replace BK195 := bb (bk BK195) hb
       replace BK199 := bb (bk BK199) hb
       replace BK203 := bb (bk BK203) hb
       replace BK211 := bb (bk BK211) hb
       replace BK219 := bb (bk BK219) hb
       replace HB := hbb (hzs HB) hb
       clear hb
       refine hK.out _ _ ⟨cw0 BK211, cw1 BK211, cw0 BK203, cw1 BK203⟩ (fun hHeld => ?_)
       clear hK K
       refine nP ?_
       refine oN 4 74 #[true, true, true, true, true, false, false, false, true, false, false] HT_ (fun K hK => ?_)
       refine gS Try.func59 #[.agg #[.int .i64 t212, .int .i64 t213], .agg #[.int .i64 t214, .int .i64 t215]] ?_
       with_reducible refine (spec_SpanMul.calls kj2 t212 t213 t214 t215 t216 t217 t218 _ A36.out).mono ?_
       rintro e w115 ⟨rfl, hb⟩
       refine ⟨_, rfl, ?_⟩
       replace BK179 := bb (bk BK179) hb
       replace BK180 := bb (bk BK180) hb
       replace BK181 := bb (bk BK181) hb
       replace BK186 := bb (bk BK186) hb
       replace BK189 := bb (bk BK189) hb
       replace BK192 := bb (bk BK192) hb
       replace BK195 := bb (bk BK195) hb
       replace BK199 := bb (bk BK199) hb
       replace BK203 := bb (bk BK203) hb
       replace BK211 := bb (bk BK211) hb
       replace BK219 := bb (bk BK219) hb
       replace HB := hbb (hzs HB) hb
       clear hb
       refine hK.out _ _ ⟨cw0 BK211, cw1 BK211, cw0 BK203, cw1 BK203⟩ (fun hHeld => ?_)
       clear hK K
       refine nP ?_
       refine pU 5 69 #[true, true, true, true, true, true, false, false, true, false, false] HT_ ?_
       refine pU 6 75 #[true, true, true, true, true, true, true, false, true, false, false] HT_ ?_
       refine pU 7 76 #[true, true, true, true, true, true, true, true, true, false, false] HT_ ?_
       exact nm (hCont (gb219) _ ⟨hHeld, (bk BK179), (bk BK180), (bk BK181), (bk BK186), (bk BK189), (bk BK192), (bk BK195), (bk BK199), (bk BK203), (bk BK211), (bk BK219), GW219.out, GE219.out, NB179_219.out, NB219_179.out, NB180_219.out, NB219_180.out, NB181_219.out, NB219_181.out, NB186_219.out, NB219_186.out, NB189_219.out, NB219_189.out, NB192_219.out, NB219_192.out, NB195_219.out, NB219_195.out, NB199_219.out, NB219_199.out, NB203_219.out, NB219_203.out, NB211_219.out, NB219_211.out, (hzs HB)⟩)
     ·skip
      refine bS 16 #[.int .i64 0, .int .i64 0] 42 ?_
      intro gb219 hg w112 hbox hb
      have BK219 := Aside0.mk (hbox)
      have GE219 := gw hg (hzs HB)
      have GW219 := GE219
      have NB179_219 := nl hg (bk BK179)
      have NB219_179 := ng hg (bk BK179)
      have NB180_219 := nl hg (bk BK180)
      have NB219_180 := ng hg (bk BK180)
      have NB181_219 := nl hg (bk BK181)
      have NB219_181 := ng hg (bk BK181)
      have NB186_219 := nl hg (bk BK186)
      have NB219_186 := ng hg (bk BK186)
      have NB189_219 := nl hg (bk BK189)
      have NB219_189 := ng hg (bk BK189)
      have NB192_219 := nl hg (bk BK192)
      have NB219_192 := ng hg (bk BK192)
      have NB195_219 := nl hg (bk BK195)
      have NB219_195 := ng hg (bk BK195)
      have NB199_219 := nl hg (bk BK199)
      have NB219_199 := ng hg (bk BK199)
      have NB203_219 := nl hg (bk BK203)
      have NB219_203 := ng hg (bk BK203)
      have NB211_219 := nl hg (bk BK211)
      have NB219_211 := ng hg (bk BK211)
      replace BK179 := bb (bk BK179) hb
      replace BK180 := bb (bk BK180) hb
      replace BK181 := bb (bk BK181) hb
      replace BK186 := bb (bk BK186) hb
      replace BK189 := bb (bk BK189) hb
      replace BK192 := bb (bk BK192) hb
      replace BK195 := bb (bk BK195) hb
      replace BK199 := bb (bk BK199) hb
      replace BK203 := bb (bk BK203) hb
      replace BK211 := bb (bk BK211) hb
      replace HB := hbb (hzs HB) hb
      clear hb hbox hg
      refine hK.out _ _ ⟨cw0 BK211, cw1 BK211, cw0 BK203, cw1 BK203⟩ (fun hHeld => ?_)
      clear hK K
      refine nP ?_
      refine oN 1 71 #[true, true, true, false, false, false, false, false, true, false, false] HT_ (fun K hK => ?_)
      refine gS Try.func60 #[.agg #[.int .i64 t208, .int .i64 t209]] ?_
      with_reducible refine (spec_l21Clip.calls t208 t209 t212 t213 _ A34.out).mono ?_
      rintro e w113 ⟨rfl, hb⟩
      refine ⟨_, rfl, ?_⟩
      replace BK179 := bb (bk BK179) hb
      replace BK180 := bb (bk BK180) hb
      replace BK181 := bb (bk BK181) hb
      replace BK186 := bb (bk BK186) hb
      replace BK189 := bb (bk BK189) hb
      replace BK192 := bb (bk BK192) hb
      replace BK195 := bb (bk BK195) hb
      replace BK199 := bb (bk BK199) hb
      replace BK203 := bb (bk BK203) hb
      replace BK211 := bb (bk BK211) hb
      replace BK219 := bb (bk BK219) hb
      replace HB := hbb (hzs HB) hb
      clear hb
      refine hK.out _ _ ⟨cw0 BK211, cw1 BK211, cw0 BK203, cw1 BK203⟩ (fun hHeld => ?_)
      clear hK K
      refine nP ?_
      refine oN 3 73 #[true, true, true, true, false, false, false, false, true, false, false] HT_ (fun K hK => ?_)
      refine gS Try.func60 #[.agg #[.int .i64 t200, .int .i64 t201]] ?_
      with_reducible refine (spec_l21Clip.calls t200 t201 t214 t215 _ A35.out).mono ?_
      rintro e w114 ⟨rfl, hb⟩
      refine ⟨_, rfl, ?_⟩
      replace BK179 := bb (bk BK179) hb
      replace BK180 := bb (bk BK180) hb
      replace BK181 := bb (bk BK181) hb
      replace BK186 := bb (bk BK186) hb
      replace BK189 := bb (bk BK189) hb
      replace BK192 := bb (bk BK192) hb
      replace BK195 := bb (bk BK195) hb
      replace BK199 := bb (bk BK199) hb
      replace BK203 := bb (bk BK203) hb
      replace BK211 := bb (bk BK211) hb
      replace BK219 := bb (bk BK219) hb
      replace HB := hbb (hzs HB) hb
      clear hb
      refine hK.out _ _ ⟨cw0 BK211, cw1 BK211, cw0 BK203, cw1 BK203⟩ (fun hHeld => ?_)
      clear hK K
      refine nP ?_
      refine oN 4 74 #[true, true, true, true, true, false, false, false, true, false, false] HT_ (fun K hK => ?_)
      refine gS Try.func59 #[.agg #[.int .i64 t212, .int .i64 t213], .agg #[.int .i64 t214, .int .i64 t215]] ?_
      with_reducible refine (spec_SpanMul.calls kj2 t212 t213 t214 t215 t216 t217 t218 _ A36.out).mono ?_
      rintro e w115 ⟨rfl, hb⟩
      refine ⟨_, rfl, ?_⟩
      replace BK179 := bb (bk BK179) hb
      replace BK180 := bb (bk BK180) hb
      replace BK181 := bb (bk BK181) hb
      replace BK186 := bb (bk BK186) hb
      replace BK189 := bb (bk BK189) hb
      replace BK192 := bb (bk BK192) hb
      replace BK195 := bb (bk BK195) hb
      replace BK199 := bb (bk BK199) hb
      replace BK203 := bb (bk BK203) hb
      replace BK211 := bb (bk BK211) hb
      replace BK219 := bb (bk BK219) hb
      replace HB := hbb (hzs HB) hb
      clear hb
      refine hK.out _ _ ⟨cw0 BK211, cw1 BK211, cw0 BK203, cw1 BK203⟩ (fun hHeld => ?_)
      clear hK K
      refine nP ?_
      refine pU 5 69 #[true, true, true, true, true, true, false, false, true, false, false] HT_ ?_
      refine pU 6 75 #[true, true, true, true, true, true, true, false, true, false, false] HT_ ?_
      refine pU 7 76 #[true, true, true, true, true, true, true, true, true, false, false] HT_ ?_
      exact nm (hCont (gb219) _ ⟨hHeld, (bk BK179), (bk BK180), (bk BK181), (bk BK186), (bk BK189), (bk BK192), (bk BK195), (bk BK199), (bk BK203), (bk BK211), (bk BK219), GW219.out, GE219.out, NB179_219.out, NB219_179.out, NB180_219.out, NB219_180.out, NB181_219.out, NB219_181.out, NB186_219.out, NB219_186.out, NB189_219.out, NB219_189.out, NB192_219.out, NB219_192.out, NB195_219.out, NB219_195.out, NB199_219.out, NB219_199.out, NB203_219.out, NB219_203.out, NB211_219.out, NB219_211.out, (hzs HB)⟩)
    rintro gb219 w116 ⟨hS_, h0_, h1_, h2_, h3_, h4_, h5_, h6_, h7_, h8_, h9_, h10_, h11_, h12_, h13_, h14_, h15_, h16_, h17_, h18_, h19_, h20_, h21_, h22_, h23_, h24_, h25_, h26_, h27_, h28_, h29_, h30_, h31_, h32_, h33_⟩
    replace BK179 := Aside0.mk h0_
    replace BK180 := Aside0.mk h1_
    replace BK181 := Aside0.mk h2_
    replace BK186 := Aside0.mk h3_
    replace BK189 := Aside0.mk h4_
    replace BK192 := Aside0.mk h5_
    replace BK195 := Aside0.mk h6_
    replace BK199 := Aside0.mk h7_
    replace BK203 := Aside0.mk h8_
    replace BK211 := Aside0.mk h9_
    have BK219 := Aside0.mk h10_
    have GW219 := Aside0.mk h11_
    have GE219 := Aside0.mk h12_
    have NB179_219 := Aside0.mk h13_
    have NB219_179 := Aside0.mk h14_
    have NB180_219 := Aside0.mk h15_
    have NB219_180 := Aside0.mk h16_
    have NB181_219 := Aside0.mk h17_
    have NB219_181 := Aside0.mk h18_
    have NB186_219 := Aside0.mk h19_
    have NB219_186 := Aside0.mk h20_
    have NB189_219 := Aside0.mk h21_
    have NB219_189 := Aside0.mk h22_
    have NB192_219 := Aside0.mk h23_
    have NB219_192 := Aside0.mk h24_
    have NB195_219 := Aside0.mk h25_
    have NB219_195 := Aside0.mk h26_
    have NB199_219 := Aside0.mk h27_
    have NB219_199 := Aside0.mk h28_
    have NB203_219 := Aside0.mk h29_
    have NB219_203 := Aside0.mk h30_
    have NB211_219 := Aside0.mk h31_
    have NB219_211 := Aside0.mk h32_
    replace HB := Aside0.mk h33_
    clear h0_ h1_ h2_ h3_ h4_ h5_ h6_ h7_ h8_ h9_ h10_ h11_ h12_ h13_ h14_ h15_ h16_ h17_ h18_ h19_ h20_ h21_ h22_ h23_ h24_ h25_ h26_ h27_ h28_ h29_ h30_ h31_ h32_ h33_
    have hHeld : w116.cell? ⟨gb211, 0, none⟩ = some (.int .i64 t208) ∧ w116.cell? ⟨gb211, 1, none⟩ = some (.int .i64 t209) ∧ w116.cell? ⟨gb203, 0, none⟩ = some (.int .i64 t200) ∧ w116.cell? ⟨gb203, 1, none⟩ = some (.int .i64 t201) := hS_
    refine norm_ (a' := ?_) ?_ ?_
    rotate_left
    ·simp only [putAll, Act.put, List.setIfInBounds_toArray, List.set_cons_zero, List.set_cons_succ]
     rfl
    refine one_ (i := 9) (N := none) #[true, true, true, true, true, true, true, true, true, true, false] rfl rfl (one_of HT_.out (by kernel_rfl)) (by decide) (fun K hK => ?_)
    have hs117 : w116.cell? ⟨gb219, 0, none⟩ = some (.int .i64 0) := (blk_cell BK219.out 0).trans rfl
    have hfs117 := blk_frozen BK219.out 0
    have hns117_0 := NB179_219.out
    have hns117_1 := NB180_219.out
    have hns117_2 := NB181_219.out
    have hns117_3 := NB186_219.out
    have hns117_4 := NB189_219.out
    have hns117_5 := NB192_219.out
    have hns117_6 := NB195_219.out
    have hns117_7 := NB199_219.out
    have hns117_8 := NB203_219.out
    have hns117_9 := NB211_219.out
    have hms117_0 := NB219_179.out
    have hms117_1 := NB219_180.out
    have hms117_2 := NB219_181.out
    have hms117_3 := NB219_186.out
    have hms117_4 := NB219_189.out
    have hms117_5 := NB219_192.out
    have hms117_6 := NB219_195.out
    have hms117_7 := NB219_199.out
    have hms117_8 := NB219_203.out
    have hms117_9 := NB219_211.out
    have hs118 : w116.cell? ⟨gb219, 1, none⟩ = some (.int .i64 0) := (blk_cell BK219.out 1).trans rfl
    have hfs118 := blk_frozen BK219.out 1
    have hns118_0 := NB179_219.out
    have hns118_1 := NB180_219.out
    have hns118_2 := NB181_219.out
    have hns118_3 := NB186_219.out
    have hns118_4 := NB189_219.out
    have hns118_5 := NB192_219.out
    have hns118_6 := NB195_219.out
    have hns118_7 := NB199_219.out
    have hns118_8 := NB203_219.out
    have hns118_9 := NB211_219.out
    have hms118_0 := NB219_179.out
    have hms118_1 := NB219_180.out
    have hms118_2 := NB219_181.out
    have hms118_3 := NB219_186.out
    have hms118_4 := NB219_189.out
    have hms118_5 := NB219_192.out
    have hms118_6 := NB219_195.out
    have hms118_7 := NB219_199.out
    have hms118_8 := NB219_203.out
    have hms118_9 := NB219_211.out
    refine skip_ (w1 := ?_) (by rfl) rfl ?_ ?_
    rotate_left
    ·go_simp
     rfl
    refine hK.out _ _ ⟨((cell_far (p := ⟨gb219, _, none⟩) NB211_219.out _).trans (((cell_far (p := ⟨gb219, _, none⟩) NB211_219.out _).trans (hHeld.1)))), ((cell_far (p := ⟨gb219, _, none⟩) NB211_219.out _).trans (((cell_far (p := ⟨gb219, _, none⟩) NB211_219.out _).trans (hHeld.2.1)))), ((cell_far (p := ⟨gb219, _, none⟩) NB203_219.out _).trans (((cell_far (p := ⟨gb219, _, none⟩) NB203_219.out _).trans (hHeld.2.2.1)))), ((cell_far (p := ⟨gb219, _, none⟩) NB203_219.out _).trans (((cell_far (p := ⟨gb219, _, none⟩) NB203_219.out _).trans (hHeld.2.2.2))))⟩ (fun hHeld => ?_)
    clear hK K
    refine pU 10 17 #[true, true, true, true, true, true, true, true, true, true, true] HT_ ?_
    refine done_ (done_of HT_.out (by kernel_rfl)) ?_
    have hnb119 := NB199_211.out
    have hnc119 := NB211_199.out
    have hnb120 := NB199_219.out
    have hnc120 := NB219_199.out
    obtain ⟨hcz121_0, hcz121_1, hfz121_0, hfz121_1⟩ := cz2 BK199
    try go_wp2_with (first | ((with_reducible refine gate_callee (f := 60) rfl ?_); refine gL 78 Try.func60 #[.agg #[.int .i64 t196, .int .i64 t197]] ?_; (with_reducible refine (spec_l21Clip.calls t196 t197 t220 t221 _ A37.out).mono ?_); rintro e w122 ⟨rfl, hb⟩; refine ⟨_, rfl, ?_⟩; replace BK179 := bb (bk1 BK179 NB179_219) hb; replace BK180 := bb (bk1 BK180 NB180_219) hb; replace BK181 := bb (bk1 BK181 NB181_219) hb; replace BK186 := bb (bk1 BK186 NB186_219) hb; replace BK189 := bb (bk1 BK189 NB189_219) hb; replace BK192 := bb (bk1 BK192 NB192_219) hb; replace BK195 := bb (bk1 BK195 NB195_219) hb; replace BK199 := bb (bk1 BK199 NB199_219) hb; replace BK203 := bb (bk1 BK203 NB203_219) hb; replace BK211 := bb (bk1 BK211 NB211_219) hb; replace BK219 := bb (o := .cells #[.int .i64 t216, .int .i64 t217] 42 (0, 0)) (bkp BK219) hb; replace HB := hbb (hzs HB) hb; clear hb; obtain ⟨hcz123_0, hcz123_1, hfz123_0, hfz123_1⟩ := cz2 BK199; have hnb124 := NB219_179.out; have hnc124 := NB179_219.out; have hnb125 := NB219_180.out; have hnc125 := NB180_219.out; have hnb126 := NB219_181.out; have hnc126 := NB181_219.out; have hnb127 := NB219_186.out; have hnc127 := NB186_219.out; have hnb128 := NB219_189.out; have hnc128 := NB189_219.out; have hnb129 := NB219_192.out; have hnc129 := NB192_219.out; have hnb130 := NB219_195.out; have hnc130 := NB195_219.out; have hnb131 := NB219_203.out; have hnc131 := NB203_219.out; have hnb132 := NB219_211.out; have hnc132 := NB211_219.out; obtain ⟨hcz133_0, hcz133_1, hfz133_0, hfz133_1⟩ := cz2 BK219) | ((with_reducible refine gate_callee (f := 60) rfl ?_); refine gL 90 Try.func60 #[.agg #[.int .i64 (wrap64 (t220 + t216)), .int .i64 (wrap64 (t221 + t217))]] ?_; (with_reducible refine (spec_l21Clip.calls (wrap64 (t220 + t216)) (wrap64 (t221 + t217)) t222 t223 _ A38.out).mono ?_); rintro e w134 ⟨rfl, hb⟩; refine ⟨_, rfl, ?_⟩; replace BK179 := bb (bk1 BK179 NB179_199) hb; replace BK180 := bb (bk1 BK180 NB180_199) hb; replace BK181 := bb (bk1 BK181 NB181_199) hb; replace BK186 := bb (bk1 BK186 NB186_199) hb; replace BK189 := bb (bk1 BK189 NB189_199) hb; replace BK192 := bb (bk1 BK192 NB192_199) hb; replace BK195 := bb (bk1 BK195 NB195_199) hb; replace BK199 := bb (o := .cells #[.int .i64 t220, .int .i64 t221] 42 (0, 0)) (bkp BK199) hb; replace BK203 := bb (bk1 BK203 NB203_199) hb; replace BK211 := bb (bk1 BK211 NB211_199) hb; replace BK219 := bb (bk1 BK219 NB219_199) hb; replace HB := hbb (hzs HB) hb; clear hb; have hnb135 := NB181_211.out; have hnc135 := NB211_181.out; obtain ⟨hcz136_0, hcz136_1, hfz136_0, hfz136_1⟩ := cz2 BK181))
    refine bodyPost_ret (results_ct rfl _ _ gb181 42 #[.int .i64 t222, .int .i64 t223] (0, 0) _ rfl (bkp BK181) Try.underlying42 rfl (by kernel_rfl)) rfl ?_
    exact ⟨by first | rfl | (simp [errW_none, errW_some] <;> rfl) | (simp [*, errW_none, errW_some] <;> rfl), hzs HB⟩


end Go.Proofs.Ytmcippkpgmehdaa.M
