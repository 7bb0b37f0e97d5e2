import Derived.Test.YtmcippkpgmehdaaM0
import Derived.Test.YtmcippkpgmehdaaNa
namespace Go.Proofs.Ytmcippkpgmehdaa.M
open Go.RowKit Go.Proofs.YtmcippkpgmehdaaW.PrintWords Go.Proofs.YtmcippkpgmehdaaW.PrintLast Go.Proofs.YtmcippkpgmehdaaW.PrintMore
attribute [local go_sem] max2_int min2_int max_two min_two max_three min_three max_four min_four
attribute [local go_sem high] eqA42 eqA29 eqA24
attribute [local go_sem] fld42_0 fld42_1 fld29_0 fld29_1 fld24_0 fld24_1 fld38_0 fld38_1 fld88_0 fld88_1 fld88_2 fld88_3 fld88_4
set_option linter.unusedVariables false
set_option linter.unusedSimpArgs false

/-! ### spec_l2Fit: function 88 -/
def spec_l2Fit.f (a0 : Int) (a1 : Int) : Option (Int × Int × Bool) := (spec_SpanOk.f a0 a1).bind fun t164 => (if t164 = true then (some (a0, a1, true)) else (some (0, 0, false)))
set_option maxHeartbeats 8000000 in
set_option maxRecDepth 100000 in
theorem spec_l2Fit.calls (a0 : Int) (a1 : Int) (r1 : Int) (r2 : Int) (r3 : Bool) (w : World) (h : spec_l2Fit.f a0 a1 = some (r1, r2, r3)) :
  Calls Try.prog 88 #[.int .i64 a0, .int .i64 a1] w fun e w' => e = .returned (.tuple #[.agg #[.int .i64 r1, .int .i64 r2], .bool r3]) ∧ Below w.heap.size w w' := by
 have hu42 := Try.underlying42
 have HB := Aside0.mk (Below.refl w.heap.size w)
 have H : ((spec_SpanOk.f a0 a1).bind fun t164 => (if t164 = true then (some (a0, a1, true)) else (some (0, 0, false)))) = some (r1, r2, r3) := h
 clear h
 replace H := Option.bind_eq_some_iff.mp H
 obtain ⟨t164, A30, H⟩ := H
 try dsimp only at H
 have A3 := Aside0.mk A30
 clear A30
 by_cases c4 : t164 = true
 ·subst c4
  have H1 : (some (a0, a1, true)) = some (r1, r2, r3) := by rw [if_pos rfl] at H; exact H
  clear H
  have H := H1
  clear H1
  simp only [Option.some.injEq, Prod.mk.injEq] at H
  obtain ⟨rfl, rfl, rfl⟩ := H
  go_enter Try.func88, Try.ntmps88
  go_wp2_with (first | ((with_reducible refine gate_dst (N := 4) rfl ?_); refine bE 4 #[.int .i64 0, .int .i64 0] 42 ?_; intro gb162 hg w5 hbox hb; have BK162 := Aside0.mk (hbox); have GE162 := gw hg (hz0 HB); have GW162 := GE162; replace HB := hbb (hz0 HB) hb; clear hb hbox hg) | ((with_reducible refine gate_dst (N := 6) rfl ?_); refine bE 6 #[.int .i64 0, .int .i64 0] 42 ?_; intro gb163 hg w6 hbox hb; have BK163 := Aside0.mk (hbox); have GE163 := gw hg (hzs HB); have GW163 := GE163; have NB162_163 := nl hg (bk BK162); have NB163_162 := ng hg (bk BK162); replace BK162 := bb (bk BK162) hb; replace HB := hbb (hzs HB) hb; clear hb hbox hg; have hnb7 := NB163_162.out; have hnc7 := NB162_163.out; obtain ⟨hcz8_0, hcz8_1, hfz8_0, hfz8_1⟩ := cz2 BK163) | ((with_reducible refine gate_callee (f := 84) rfl ?_); refine gL 11 Try.func84 #[.agg #[.int .i64 a0, .int .i64 a1]] ?_; (with_reducible refine (spec_SpanOk.calls a0 a1 true _ A3.out).mono ?_); rintro e w9 ⟨rfl, hb⟩; refine ⟨_, rfl, ?_⟩; replace BK162 := bb (bk1 BK162 NB162_163) hb; replace BK163 := bb (o := .cells #[.int .i64 a0, .int .i64 a1] 42 (0, 0)) (bkp BK163) hb; replace HB := hbb (hzs HB) hb; clear hb; obtain ⟨hcz10_0, hcz10_1, hfz10_0, hfz10_1⟩ := cz2 BK163; obtain ⟨hcz11_0, hcz11_1, hfz11_0, hfz11_1⟩ := cz2 BK162))
  refine bodyPost_ret (results_ct rfl _ _ gb162 42 #[.int .i64 a0, .int .i64 a1] (0, 0) _ rfl (bkp BK162) Try.underlying42 rfl (by kernel_rfl)) rfl ?_
  exact ⟨by first | rfl | (simp [errW_none, errW_some] <;> rfl) | (simp [*, errW_none, errW_some] <;> rfl), hzs HB⟩
 ·replace c4 := Bool.eq_false_iff.mpr c4
  subst c4
  have H1 : (some (0, 0, false)) = some (r1, r2, r3) := by rw [if_neg (show ¬ (false = true) by decide)] at H; exact H
  clear H
  have H := H1
  clear H1
  simp only [Option.some.injEq, Prod.mk.injEq] at H
  obtain ⟨rfl, rfl, rfl⟩ := H
  go_enter Try.func88, Try.ntmps88
  go_wp2_with (first | ((with_reducible refine gate_dst (N := 4) rfl ?_); refine bE 4 #[.int .i64 0, .int .i64 0] 42 ?_; intro gb162 hg w12 hbox hb; have BK162 := Aside0.mk (hbox); have GE162 := gw hg (hz0 HB); have GW162 := GE162; replace HB := hbb (hz0 HB) hb; clear hb hbox hg) | ((with_reducible refine gate_dst (N := 6) rfl ?_); refine bE 6 #[.int .i64 0, .int .i64 0] 42 ?_; intro gb163 hg w13 hbox hb; have BK163 := Aside0.mk (hbox); have GE163 := gw hg (hzs HB); have GW163 := GE163; have NB162_163 := nl hg (bk BK162); have NB163_162 := ng hg (bk BK162); replace BK162 := bb (bk BK162) hb; replace HB := hbb (hzs HB) hb; clear hb hbox hg; have hnb14 := NB163_162.out; have hnc14 := NB162_163.out; obtain ⟨hcz15_0, hcz15_1, hfz15_0, hfz15_1⟩ := cz2 BK163) | ((with_reducible refine gate_callee (f := 84) rfl ?_); refine gL 11 Try.func84 #[.agg #[.int .i64 a0, .int .i64 a1]] ?_; (with_reducible refine (spec_SpanOk.calls a0 a1 false _ A3.out).mono ?_); rintro e w16 ⟨rfl, hb⟩; refine ⟨_, rfl, ?_⟩; replace BK162 := bb (bk1 BK162 NB162_163) hb; replace BK163 := bb (o := .cells #[.int .i64 a0, .int .i64 a1] 42 (0, 0)) (bkp BK163) hb; replace HB := hbb (hzs HB) hb; clear hb; obtain ⟨hcz17_0, hcz17_1, hfz17_0, hfz17_1⟩ := cz2 BK162))
  refine bodyPost_ret (results_ct rfl _ _ gb162 42 #[.int .i64 0, .int .i64 0] (0, 0) _ rfl (bkp BK162) Try.underlying42 rfl (by kernel_rfl)) rfl ?_
  exact ⟨by first | rfl | (simp [errW_none, errW_some] <;> rfl) | (simp [*, errW_none, errW_some] <;> rfl), hzs HB⟩


/-! ### spec_l2Four: function 87 -/
def spec_l2Four.f (a0 : Int) (a1 : Int) (a2 : Int) (a3 : Int) : Option (Int × Int) := some (mn (mn a0 a1) (mn a2 a3), mx (mx a0 a1) (mx a2 a3))
set_option maxHeartbeats 8000000 in
set_option maxRecDepth 100000 in
theorem spec_l2Four.calls (a0 : Int) (a1 : Int) (a2 : Int) (a3 : Int) (r1 : Int) (r2 : Int) (w : World) (h : spec_l2Four.f a0 a1 a2 a3 = some (r1, r2)) :
  Calls Try.prog 87 #[.int .i64 a0, .int .i64 a1, .int .i64 a2, .int .i64 a3] w fun e w' => e = .returned (.tuple #[.int .i64 r1, .int .i64 r2]) ∧ Below w.heap.size w w' := by
 have HB := Aside0.mk (Below.refl w.heap.size w)
 have H : (some (mn (mn a0 a1) (mn a2 a3), mx (mx a0 a1) (mx a2 a3))) = some (r1, r2) := h
 clear h
 obtain ⟨ji5, hji5⟩ : ∃ j_ : Int, (mn a0 a1) = j_ := ⟨_, rfl⟩
 replace H : (some (mn (ji5) (mn a2 a3), mx (mx a0 a1) (mx a2 a3))) = some (r1, r2) := by first | (rw [hji5] at H; exact H) | (simp only [hji5] at H ⊢; exact H)
 have hji5_ : (if a1 < a0 then a1 else a0) = ji5 := hji5
 obtain ⟨ji6, hji6⟩ : ∃ j_ : Int, (mn a2 a3) = j_ := ⟨_, rfl⟩
 replace H : (some (mn (ji5) (ji6), mx (mx a0 a1) (mx a2 a3))) = some (r1, r2) := by first | (rw [hji6] at H; exact H) | (simp only [hji6] at H ⊢; exact H)
 have hji6_ : (if a3 < a2 then a3 else a2) = ji6 := hji6
 obtain ⟨ji7, hji7⟩ : ∃ j_ : Int, (mn (ji5) (ji6)) = j_ := ⟨_, rfl⟩
 replace H : (some (ji7, mx (mx a0 a1) (mx a2 a3))) = some (r1, r2) := by first | (rw [hji7] at H; exact H) | (simp only [hji7] at H ⊢; exact H)
 have hji7_ : (if (ji6) < (ji5) then (ji6) else (ji5)) = ji7 := hji7
 obtain ⟨ji8, hji8⟩ : ∃ j_ : Int, (mx a0 a1) = j_ := ⟨_, rfl⟩
 replace H : (some (ji7, mx (ji8) (mx a2 a3))) = some (r1, r2) := by first | (rw [hji8] at H; exact H) | (simp only [hji8] at H ⊢; exact H)
 have hji8_ : (if a0 < a1 then a1 else a0) = ji8 := hji8
 obtain ⟨ji9, hji9⟩ : ∃ j_ : Int, (mx a2 a3) = j_ := ⟨_, rfl⟩
 replace H : (some (ji7, mx (ji8) (ji9))) = some (r1, r2) := by first | (rw [hji9] at H; exact H) | (simp only [hji9] at H ⊢; exact H)
 have hji9_ : (if a2 < a3 then a3 else a2) = ji9 := hji9
 obtain ⟨ji10, hji10⟩ : ∃ j_ : Int, (mx (ji8) (ji9)) = j_ := ⟨_, rfl⟩
 replace H : (some (ji7, ji10)) = some (r1, r2) := by first | (rw [hji10] at H; exact H) | (simp only [hji10] at H ⊢; exact H)
 have hji10_ : (if (ji8) < (ji9) then (ji9) else (ji8)) = ji10 := hji10
 simp only [Option.some.injEq, Prod.mk.injEq] at H
 obtain ⟨rfl, rfl⟩ := H
 go_enter Try.func87, Try.ntmps87
 go_wp2
 go_ret2
 exact ⟨by first | rfl | (simp [errW_none, errW_some] <;> rfl) | (simp only [← hji5, ← hji6, ← hji7, ← hji8, ← hji9, ← hji10]; first | rfl | (simp [errW_none, errW_some] <;> rfl)) | (simp [*, errW_none, errW_some] <;> rfl), hz0 HB⟩


/-! ### spec_SpanMul: function 59 -/
def spec_SpanMul.j0 : Nat → Bool → Int → Int → Int → Int → Option (Int × Int × Bool)
 | 0, _, _, _, _, _ => none
 | k + 1, x15, x166000, x166001, x167000, x167001 => if x15 = true then (some (0, 0, false)) else ((spec_l2Four.f (wrap64 (x166000 * x167000)) (wrap64 (x166000 * x167001)) (wrap64 (x166001 * x167000)) (wrap64 (x166001 * x167001))).bind fun bt170 => ((spec_l1Down.f bt170.1 1000000000).bind fun t172 => ((spec_l1Up.f bt170.2 1000000000).bind fun t173 => ((spec_l2Fit.f t172 t173).bind fun bt174 => (some (bt174.1, bt174.2.1, bt174.2.2))))))
def spec_SpanMul.f (k : Nat) (a0_0 : Int) (a0_1 : Int) (a1_0 : Int) (a1_1 : Int) : Option (Int × Int × Bool) := (spec_SpanOk.f a0_0 a0_1).bind fun t168 => (if t168 = true then ((spec_SpanOk.f a1_0 a1_1).bind fun t169 => (spec_SpanMul.j0 k (!t169) a0_0 a0_1 a1_0 a1_1)) else (spec_SpanMul.j0 k true a0_0 a0_1 a1_0 a1_1))
set_option maxHeartbeats 8000000 in
set_option maxRecDepth 100000 in
theorem spec_SpanMul.calls (k : Nat) (a0_0 : Int) (a0_1 : Int) (a1_0 : Int) (a1_1 : Int) (r1 : Int) (r2 : Int) (r3 : Bool) (w : World) (h : spec_SpanMul.f k a0_0 a0_1 a1_0 a1_1 = some (r1, r2, r3)) :
  Calls Try.prog 59 #[.agg #[.int .i64 a0_0, .int .i64 a0_1], .agg #[.int .i64 a1_0, .int .i64 a1_1]] w fun e w' => e = .returned (.tuple #[.agg #[.int .i64 r1, .int .i64 r2], .bool r3]) ∧ Below w.heap.size w w' := by
 have hu42 := Try.underlying42
 have HB := Aside0.mk (Below.refl w.heap.size w)
 have H : ((spec_SpanOk.f a0_0 a0_1).bind fun t168 => (if t168 = true then ((spec_SpanOk.f a1_0 a1_1).bind fun t169 => (spec_SpanMul.j0 k (!t169) a0_0 a0_1 a1_0 a1_1)) else (spec_SpanMul.j0 k true a0_0 a0_1 a1_0 a1_1))) = some (r1, r2, r3) := h
 clear h
 have HC3 := Aside0.mk H
 clear H
 go_enter Try.func59, Try.ntmps59
 go_upto_region 1 with (first | ((with_reducible refine gate_dst (N := 2) rfl ?_); refine bE 2 #[.int .i64 a0_0, .int .i64 a0_1] 42 ?_; intro gb165 hg w4 hbox hb; have BK165 := Aside0.mk (hbox); have GE165 := gw hg (hz0 HB); replace HB := hbb (hz0 HB) hb; clear hb hbox hg) | ((with_reducible refine gate_dst (N := 3) rfl ?_); refine bE 3 #[.int .i64 a1_0, .int .i64 a1_1] 42 ?_; intro gb166 hg w5 hbox hb; have BK166 := Aside0.mk (hbox); have GE166 := gw hg (hzs HB); have NB165_166 := nl hg (bk BK165); have NB166_165 := ng hg (bk BK165); replace BK165 := bb (bk BK165) hb; replace HB := hbb (hzs HB) hb; clear hb hbox hg) | ((with_reducible refine gate_dst (N := 4) rfl ?_); refine bE 4 #[.int .i64 0, .int .i64 0] 42 ?_; intro gb167 hg w6 hbox hb; have BK167 := Aside0.mk (hbox); have GE167 := gw hg (hzs HB); have NB165_167 := nl hg (bk BK165); have NB167_165 := ng hg (bk BK165); have NB166_167 := nl hg (bk BK166); have NB167_166 := ng hg (bk BK166); replace BK165 := bb (bk BK165) hb; replace BK166 := bb (bk BK166) hb; replace HB := hbb (hzs HB) hb; clear hb hbox hg))
 (try simp only [Act.put, List.setIfInBounds_toArray, List.set_cons_zero, List.set_cons_succ])
 go_cut [15] (fun v15 wc => ∃ (kq : Nat) (x15_2 : Bool), v15 = .bool x15_2 ∧ Aside0 (spec_SpanMul.j0 kq x15_2 a0_0 a0_1 a1_0 a1_1 = some (r1, r2, r3)) ∧ Aside0 (kq ≤ k) ∧ Aside0 (wc.heap[gb165]? = some (.cells #[.int .i64 a0_0, .int .i64 a0_1] 42 (0, 0))) ∧ Aside0 (wc.heap[gb166]? = some (.cells #[.int .i64 a1_0, .int .i64 a1_1] 42 (0, 0))) ∧ Aside0 (wc.heap[gb167]? = some (.cells #[.int .i64 0, .int .i64 0] 42 (0, 0))) ∧ Aside0 (Below w.heap.size w wc))
 case first =>
  have H := HC3.out
  clear HC3
  replace H := Option.bind_eq_some_iff.mp H
  obtain ⟨t168, A70, H⟩ := H
  try dsimp only at H
  have A7 := Aside0.mk A70
  clear A70
  by_cases c8 : t168 = true
  ·subst c8
   have H1 : ((spec_SpanOk.f a1_0 a1_1).bind fun t169 => (spec_SpanMul.j0 k (!t169) a0_0 a0_1 a1_0 a1_1)) = some (r1, r2, r3) := by rw [if_pos rfl] at H; exact H
   clear H
   have H := H1
   clear H1
   replace H := Option.bind_eq_some_iff.mp H
   obtain ⟨t169, A90, H⟩ := H
   try dsimp only at H
   have A9 := Aside0.mk A90
   clear A90
   have H' := Aside0.mk H
   clear H
   have hnb10 := NB165_166.out
   have hnc10 := NB166_165.out
   have hnb11 := NB165_167.out
   have hnc11 := NB167_165.out
   obtain ⟨hcz12_0, hcz12_1, hfz12_0, hfz12_1⟩ := cz2 BK165
   go_wp2_with (first | ((with_reducible refine gate_callee (f := 84) rfl ?_); refine gL 9 Try.func84 #[.agg #[.int .i64 a0_0, .int .i64 a0_1]] ?_; (with_reducible refine (spec_SpanOk.calls a0_0 a0_1 true _ A7.out).mono ?_); rintro e w13 ⟨rfl, hb⟩; refine ⟨_, rfl, ?_⟩; replace BK165 := bb (bk BK165) hb; replace BK166 := bb (bk BK166) hb; replace BK167 := bb (bk BK167) hb; replace HB := hbb (hzs HB) hb; clear hb; have hnb14 := NB166_167.out; have hnc14 := NB167_166.out; obtain ⟨hcz15_0, hcz15_1, hfz15_0, hfz15_1⟩ := cz2 BK166) | (go_at_call 84; (with_reducible refine (spec_SpanOk.calls a1_0 a1_1 t169 _ A9.out).mono ?_); rintro e w16 ⟨rfl, hb⟩; replace BK165 := bb (bk BK165) hb; replace BK166 := bb (bk BK166) hb; replace BK167 := bb (bk BK167) hb; replace HB := hbb (hzs HB) hb; clear hb))
   go_meet
   case rel => exact ⟨_, (!t169), (by first | rfl | (simp; done) | (simp [*]; done)), H', ⟨by first | omega | exact Nat.le_refl _⟩, ⟨bk BK165⟩, ⟨bk BK166⟩, ⟨bk BK167⟩, ⟨hzs HB⟩⟩
  ·replace c8 := Bool.eq_false_iff.mpr c8
   subst c8
   have H1 : (spec_SpanMul.j0 k true a0_0 a0_1 a1_0 a1_1) = some (r1, r2, r3) := by rw [if_neg (show ¬ (false = true) by decide)] at H; exact H
   clear H
   have H := H1
   clear H1
   have H' := Aside0.mk H
   clear H
   have hnb17 := NB165_166.out
   have hnc17 := NB166_165.out
   have hnb18 := NB165_167.out
   have hnc18 := NB167_165.out
   obtain ⟨hcz19_0, hcz19_1, hfz19_0, hfz19_1⟩ := cz2 BK165
   go_wp2_with (first | ((with_reducible refine gate_callee (f := 84) rfl ?_); refine gL 9 Try.func84 #[.agg #[.int .i64 a0_0, .int .i64 a0_1]] ?_; (with_reducible refine (spec_SpanOk.calls a0_0 a0_1 false _ A7.out).mono ?_); rintro e w20 ⟨rfl, hb⟩; refine ⟨_, rfl, ?_⟩; replace BK165 := bb (bk BK165) hb; replace BK166 := bb (bk BK166) hb; replace BK167 := bb (bk BK167) hb; replace HB := hbb (hzs HB) hb; clear hb))
   go_meet
   case rel => exact ⟨_, (true), (by first | rfl | (simp; done) | (simp [*]; done)), H', ⟨by first | omega | exact Nat.le_refl _⟩, ⟨bk BK165⟩, ⟨bk BK166⟩, ⟨bk BK167⟩, ⟨hzs HB⟩⟩
 case rest =>
  clear HC3
  try clear c1
  try clear p2
  try clear c5
  try clear c8
  try clear c10
  try clear c11
  try clear c14
  try clear c17
  try clear c18
  try clear hcz12_0 hcz12_1
  try clear hcz15_0 hcz15_1
  try clear hcz19_0 hcz19_1
  try clear hfz12_0 hfz12_1
  try clear hfz15_0 hfz15_1
  try clear hfz19_0 hfz19_1
  obtain ⟨kq, x15_2, rfl, HA, HJ2, BK165, BK166, BK167, HB⟩ := hcut
  cases kq with
  | zero => exact absurd HA.out (by simp [spec_SpanMul.j0])
  | succ kj2 =>
   have H := HA.out
   clear HA
   simp only [spec_SpanMul.j0] at H
   by_cases c21 : x15_2 = true
   ·subst c21
    have H1 : (some (0, 0, false)) = some (r1, r2, r3) := by rw [if_pos rfl] at H; exact H
    clear H
    have H := H1
    clear H1
    simp only [Option.some.injEq, Prod.mk.injEq] at H
    obtain ⟨rfl, rfl, rfl⟩ := H
    have hnb22 := NB167_165.out
    have hnc22 := NB165_167.out
    have hnb23 := NB167_166.out
    have hnc23 := NB166_167.out
    obtain ⟨hcz24_0, hcz24_1, hfz24_0, hfz24_1⟩ := cz2 BK167
    go_wp2
    refine bodyPost_ret (results_ct rfl _ _ gb167 42 #[.int .i64 0, .int .i64 0] (0, 0) _ rfl (bkp BK167) Try.underlying42 rfl (by kernel_rfl)) rfl ?_
    exact ⟨by first | rfl | (simp [errW_none, errW_some] <;> rfl) | (simp [*, errW_none, errW_some] <;> rfl), hzs HB⟩
   ·replace c21 := Bool.eq_false_iff.mpr c21
    subst c21
    have H1 : ((spec_l2Four.f (wrap64 (a0_0 * a1_0)) (wrap64 (a0_0 * a1_1)) (wrap64 (a0_1 * a1_0)) (wrap64 (a0_1 * a1_1))).bind fun bt170 => ((spec_l1Down.f bt170.1 1000000000).bind fun t172 => ((spec_l1Up.f bt170.2 1000000000).bind fun t173 => ((spec_l2Fit.f t172 t173).bind fun bt174 => (some (bt174.1, bt174.2.1, bt174.2.2)))))) = some (r1, r2, r3) := by rw [if_neg (show ¬ (false = true) by decide)] at H; exact H
    clear H
    have H := H1
    clear H1
    replace H := Option.bind_eq_some_iff.mp H
    obtain ⟨⟨t170, t171⟩, A250, H⟩ := H
    try dsimp only at H
    have A25 := Aside0.mk A250
    clear A250
    replace H := Option.bind_eq_some_iff.mp H
    obtain ⟨t172, A260, H⟩ := H
    try dsimp only at H
    have A26 := Aside0.mk A260
    clear A260
    replace H := Option.bind_eq_some_iff.mp H
    obtain ⟨t173, A270, H⟩ := H
    try dsimp only at H
    have A27 := Aside0.mk A270
    clear A270
    replace H := Option.bind_eq_some_iff.mp H
    obtain ⟨⟨t174, t175, t176⟩, A280, H⟩ := H
    try dsimp only at H
    have A28 := Aside0.mk A280
    clear A280
    simp only [Option.some.injEq, Prod.mk.injEq] at H
    obtain ⟨rfl, rfl, rfl⟩ := H
    have hnb29 := NB165_166.out
    have hnc29 := NB166_165.out
    have hnb30 := NB165_167.out
    have hnc30 := NB167_165.out
    obtain ⟨hcz31_0, hcz31_1, hfz31_0, hfz31_1⟩ := cz2 BK165
    have hnb32 := NB166_167.out
    have hnc32 := NB167_166.out
    obtain ⟨hcz33_0, hcz33_1, hfz33_0, hfz33_1⟩ := cz2 BK166
    go_wp2_with (first | ((with_reducible refine gate_callee (f := 87) rfl ?_); refine gL 38 Try.func87 #[.int .i64 (wrap64 (a0_0 * a1_0)), .int .i64 (wrap64 (a0_0 * a1_1)), .int .i64 (wrap64 (a0_1 * a1_0)), .int .i64 (wrap64 (a0_1 * a1_1))] ?_; (with_reducible refine (spec_l2Four.calls (wrap64 (a0_0 * a1_0)) (wrap64 (a0_0 * a1_1)) (wrap64 (a0_1 * a1_0)) (wrap64 (a0_1 * a1_1)) t170 t171 _ A25.out).mono ?_); rintro e w34 ⟨rfl, hb⟩; refine ⟨_, rfl, ?_⟩; replace BK165 := bb (bk BK165) hb; replace BK166 := bb (bk BK166) hb; replace BK167 := bb (bk BK167) hb; replace HB := hbb (hzs HB) hb; clear hb) | ((with_reducible refine gate_callee (f := 70) rfl ?_); refine gL 42 Try.func70 #[.int .i64 t170, .int .i64 1000000000] ?_; (with_reducible refine (spec_l1Down.calls t170 1000000000 t172 _ A26.out).mono ?_); rintro e w' ⟨rfl, ⟨nd, rfl⟩⟩; refine ⟨_, rfl, ?_⟩; (try (rw [drewN_self w34]; generalize hq_ : World.drewN w34 _ = w34; have n0_ : Aside0 (w34.heap[gb165]? = some (.cells #[.int .i64 a0_0, .int .i64 a0_1] 42 (0, 0))) := ⟨by rw [← hq_]; exact (bk BK165)⟩; have n1_ : Aside0 (w34.heap[gb166]? = some (.cells #[.int .i64 a1_0, .int .i64 a1_1] 42 (0, 0))) := ⟨by rw [← hq_]; exact (bk BK166)⟩; have n2_ : Aside0 (w34.heap[gb167]? = some (.cells #[.int .i64 0, .int .i64 0] 42 (0, 0))) := ⟨by rw [← hq_]; exact (bk BK167)⟩; have n3_ : Aside0 (Below w.heap.size w w34) := ⟨by rw [← hq_]; exact (hzs HB)⟩; clear BK165 BK166 BK167 HB hq_; have BK165 := n0_; have BK166 := n1_; have BK167 := n2_; have HB := n3_; clear n0_ n1_ n2_ n3_))) | ((with_reducible refine gate_callee (f := 89) rfl ?_); refine gL 44 Try.func89 #[.int .i64 t171, .int .i64 1000000000] ?_; (with_reducible refine (spec_l1Up.calls t171 1000000000 t173 _ A27.out).mono ?_); rintro e w' ⟨rfl, ⟨nd, rfl⟩⟩; refine ⟨_, rfl, ?_⟩; (try (rw [drewN_self w34]; generalize hq_ : World.drewN w34 _ = w34; have n0_ : Aside0 (w34.heap[gb165]? = some (.cells #[.int .i64 a0_0, .int .i64 a0_1] 42 (0, 0))) := ⟨by rw [← hq_]; exact (bk BK165)⟩; have n1_ : Aside0 (w34.heap[gb166]? = some (.cells #[.int .i64 a1_0, .int .i64 a1_1] 42 (0, 0))) := ⟨by rw [← hq_]; exact (bk BK166)⟩; have n2_ : Aside0 (w34.heap[gb167]? = some (.cells #[.int .i64 0, .int .i64 0] 42 (0, 0))) := ⟨by rw [← hq_]; exact (bk BK167)⟩; have n3_ : Aside0 (Below w.heap.size w w34) := ⟨by rw [← hq_]; exact (hzs HB)⟩; clear BK165 BK166 BK167 HB hq_; have BK165 := n0_; have BK166 := n1_; have BK167 := n2_; have HB := n3_; clear n0_ n1_ n2_ n3_))) | ((with_reducible refine gate_callee (f := 88) rfl ?_); refine gL 45 Try.func88 #[.int .i64 t172, .int .i64 t173] ?_; (with_reducible refine (spec_l2Fit.calls t172 t173 t174 t175 t176 _ A28.out).mono ?_); rintro e w35 ⟨rfl, hb⟩; refine ⟨_, rfl, ?_⟩; replace BK165 := bb (bk BK165) hb; replace BK166 := bb (bk BK166) hb; replace BK167 := bb (bk BK167) hb; replace HB := hbb (hzs HB) hb; clear hb; obtain ⟨hcz36_0, hcz36_1, hfz36_0, hfz36_1⟩ := cz2 BK167))
    refine bodyPost_ret (results_ct rfl _ _ gb167 42 #[.int .i64 t174, .int .i64 t175] (0, 0) _ rfl (bkp BK167) Try.underlying42 rfl (by kernel_rfl)) rfl ?_
    exact ⟨by first | rfl | (simp [errW_none, errW_some] <;> rfl) | (simp [*, errW_none, errW_some] <;> rfl), hzs HB⟩


end Go.Proofs.Ytmcippkpgmehdaa.M
