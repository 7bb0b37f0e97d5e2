import Derived.Test.YtmcippkpgmehdaaM0
import Derived.Test.YtmcippkpgmehdaaMa
namespace Go.Proofs.Ytmcippkpgmehdaa.M
open Go.RowKit Go.Proofs.YtmcippkpgmehdaaW.PrintWords Go.Proofs.YtmcippkpgmehdaaW.PrintLast Go.Proofs.YtmcippkpgmehdaaW.PrintMore
attribute [local go_sem] max2_int min2_int max_two min_two max_three min_three max_four min_four
attribute [local go_sem high] eqA42 eqA29 eqA24
attribute [local go_sem] fld42_0 fld42_1 fld29_0 fld29_1 fld24_0 fld24_1 fld38_0 fld38_1 fld88_0 fld88_1 fld88_2 fld88_3 fld88_4
set_option linter.unusedVariables false
set_option linter.unusedSimpArgs false

/-! ### impl_SpotOk: function 21 -/
def impl_SpotOk.f (a0_0 : Int) (a0_1 : Int) : Option (Bool) := (impl_in.f a0_0 (-32400000) 32400000).bind fun t245 => (if t245 = true then ((impl_in.f a0_1 0 129599999).bind fun t246 => (some t246)) else (some false))
set_option maxHeartbeats 8000000 in
set_option maxRecDepth 100000 in
theorem impl_SpotOk.calls (a0_0 : Int) (a0_1 : Int) (r : Bool) (w : World) (h : impl_SpotOk.f a0_0 a0_1 = some r) :
  Calls Try.prog 21 #[.agg #[.int .i64 a0_0, .int .i64 a0_1]] w fun e w' => e = .returned (.bool r) ∧ Below w.heap.size w w' := by
 have hu24 := Try.underlying24
 have HB := Aside0.mk (Below.refl w.heap.size w)
 have H : ((impl_in.f a0_0 (-32400000) 32400000).bind fun t245 => (if t245 = true then ((impl_in.f a0_1 0 129599999).bind fun t246 => (some t246)) else (some false))) = some r := h
 clear h
 replace H := Option.bind_eq_some_iff.mp H
 obtain ⟨t245, A20, H⟩ := H
 try dsimp only at H
 have A2 := Aside0.mk A20
 clear A20
 by_cases c3 : t245 = true
 ·subst c3
  have H1 : ((impl_in.f a0_1 0 129599999).bind fun t246 => (some t246)) = some r := by rw [if_pos rfl] at H; exact H
  clear H
  have H := H1
  clear H1
  replace H := Option.bind_eq_some_iff.mp H
  obtain ⟨t246, A40, H⟩ := H
  try dsimp only at H
  have A4 := Aside0.mk A40
  clear A40
  obtain rfl := Option.some.inj H
  go_enter Try.func21, Try.ntmps21
  go_wp2_with (first | ((with_reducible refine gate_dst (N := 1) rfl ?_); refine bE 1 #[.int .i64 a0_0, .int .i64 a0_1] 24 ?_; intro gb244 hg w5 hbox hb; have BK244 := Aside0.mk (hbox); have GE244 := gw hg (hz0 HB); have GW244 := GE244; replace HB := hbb (hz0 HB) hb; clear hb hbox hg; obtain ⟨hcz6_0, hcz6_1, hfz6_0, hfz6_1⟩ := cz2 BK244) | ((with_reducible refine gate_callee (f := 50) rfl ?_); refine gL 5 Try.func50 #[.int .i64 a0_0, .int .i64 (-32400000), .int .i64 32400000] ?_; (with_reducible refine (impl_in.calls a0_0 (-32400000) 32400000 true _ A2.out).mono ?_); rintro e w' ⟨rfl, ⟨nd, rfl⟩⟩; refine ⟨_, rfl, ?_⟩) | (go_at_call 50; (with_reducible refine (impl_in.calls a0_1 0 129599999 t246 _ A4.out).mono ?_); rintro e w' ⟨rfl, ⟨nd, rfl⟩⟩))
  go_ret
  exact ⟨by first | rfl | (simp [errW_none, errW_some] <;> rfl) | (simp [*, errW_none, errW_some] <;> rfl), hzs HB⟩
 ·replace c3 := Bool.eq_false_iff.mpr c3
  subst c3
  have H1 : (some false) = some r := by rw [if_neg (show ¬ (false = true) by decide)] at H; exact H
  clear H
  have H := H1
  clear H1
  obtain rfl := Option.some.inj H
  go_enter Try.func21, Try.ntmps21
  go_wp2_with (first | ((with_reducible refine gate_dst (N := 1) rfl ?_); refine bE 1 #[.int .i64 a0_0, .int .i64 a0_1] 24 ?_; intro gb244 hg w7 hbox hb; have BK244 := Aside0.mk (hbox); have GE244 := gw hg (hz0 HB); have GW244 := GE244; replace HB := hbb (hz0 HB) hb; clear hb hbox hg; obtain ⟨hcz8_0, hcz8_1, hfz8_0, hfz8_1⟩ := cz2 BK244) | ((with_reducible refine gate_callee (f := 50) rfl ?_); refine gL 5 Try.func50 #[.int .i64 a0_0, .int .i64 (-32400000), .int .i64 32400000] ?_; (with_reducible refine (impl_in.calls a0_0 (-32400000) 32400000 false _ A2.out).mono ?_); rintro e w' ⟨rfl, ⟨nd, rfl⟩⟩; refine ⟨_, rfl, ?_⟩))
  go_ret
  exact ⟨by first | rfl | (simp [errW_none, errW_some] <;> rfl) | (simp [*, errW_none, errW_some] <;> rfl), hzs HB⟩


/-! ### impl_SpotFar: function 19 -/
def impl_SpotFar.f (a0_0 : Int) (a0_1 : Int) : Option (Int × Int × Bool) := (impl_SpotOk.f a0_0 a0_1).bind fun t107 => (if t107 = true then ((impl_modulo.f (wrap64 (a0_1 + 64800000)) 129600000).bind fun t108 => (some (wrap64 (-a0_0), t108, true))) else (some (0, 0, false)))
def impl_SpotFar.T3 : Bool × List (List Nat × List Nat) := (true, [([], []), ([0], [0]), ([1], [1]), ([], []), ([3], [3]), ([4], [4]), ([5], [5]), ([2, 6], [2, 6]), ([7, 6, 0, 1, 2, 3, 4, 5, 6, 7], [7]), ([8, 0, 1, 2, 3, 4, 5, 6, 7, 8], [])])
def impl_SpotFar.B3 : List Nat := [0, 1, 3, 0, 8, 24, 56, 127, 255, 511]
theorem impl_SpotFar.tab3 : rtab .any (opsOf Try.f19 3) = impl_SpotFar.T3 := by kernel_rfl
theorem impl_SpotFar.bits3 : waitsOk impl_SpotFar.T3.2 impl_SpotFar.B3 = true := by kernel_rfl
set_option maxHeartbeats 8000000 in
set_option maxRecDepth 100000 in
theorem impl_SpotFar.calls (a0_0 : Int) (a0_1 : Int) (r1 : Int) (r2 : Int) (r3 : Bool) (w : World) (h : impl_SpotFar.f a0_0 a0_1 = some (r1, r2, r3)) :
  Calls Try.prog 19 #[.agg #[.int .i64 a0_0, .int .i64 a0_1]] w fun e w' => e = .returned (.tuple #[.agg #[.int .i64 r1, .int .i64 r2], .bool r3]) ∧ Below w.heap.size w w' := by
 have hu24 := Try.underlying24
 have HB := Aside0.mk (Below.refl w.heap.size w)
 have H : ((impl_SpotOk.f a0_0 a0_1).bind fun t107 => (if t107 = true then ((impl_modulo.f (wrap64 (a0_1 + 64800000)) 129600000).bind fun t108 => (some (wrap64 (-a0_0), t108, true))) else (some (0, 0, false)))) = some (r1, r2, r3) := h
 clear h
 replace H := Option.bind_eq_some_iff.mp H
 obtain ⟨t107, A20, H⟩ := H
 try dsimp only at H
 have A2 := Aside0.mk A20
 clear A20
 by_cases c3 : t107 = true
 ·subst c3
  have H1 : ((impl_modulo.f (wrap64 (a0_1 + 64800000)) 129600000).bind fun t108 => (some (wrap64 (-a0_0), t108, true))) = some (r1, r2, r3) := by rw [if_pos rfl] at H; exact H
  clear H
  have H := H1
  clear H1
  replace H := Option.bind_eq_some_iff.mp H
  obtain ⟨t108, A40, H⟩ := H
  try dsimp only at H
  have A4 := Aside0.mk A40
  clear A40
  simp only [Option.some.injEq, Prod.mk.injEq] at H
  obtain ⟨rfl, rfl, rfl⟩ := H
  go_enter Try.func19, Try.ntmps19
  try go_wp2_with (first | ((with_reducible refine gate_dst (N := 1) rfl ?_); refine bE 1 #[.int .i64 a0_0, .int .i64 a0_1] 24 ?_; intro gb105 hg w5 hbox hb; have BK105 := Aside0.mk (hbox); have GE105 := gw hg (hz0 HB); have GW105 := GE105; replace HB := hbb (hz0 HB) hb; clear hb hbox hg) | ((with_reducible refine gate_dst (N := 2) rfl ?_); refine bE 2 #[.int .i64 0, .int .i64 0] 24 ?_; intro gb106 hg w6 hbox hb; have BK106 := Aside0.mk (hbox); have GE106 := gw hg (hzs HB); have GW106 := GE106; have NB105_106 := nl hg (bk BK105); have NB106_105 := ng hg (bk BK105); replace BK105 := bb (bk BK105) hb; replace HB := hbb (hzs HB) hb; clear hb hbox hg; have hnb7 := NB105_106.out; have hnc7 := NB106_105.out; obtain ⟨hcz8_0, hcz8_1, hfz8_0, hfz8_1⟩ := cz2 BK105) | ((with_reducible refine gate_callee (f := 21) rfl ?_); refine gL 5 Try.func21 #[.agg #[.int .i64 a0_0, .int .i64 a0_1]] ?_; (with_reducible refine (impl_SpotOk.calls a0_0 a0_1 true _ A2.out).mono ?_); rintro e w9 ⟨rfl, hb⟩; refine ⟨_, rfl, ?_⟩; replace BK105 := bb (bk BK105) hb; replace BK106 := bb (bk BK106) hb; replace HB := hbb (hzs HB) hb; clear hb))
  replace BK105 := Aside0.mk (blk_drew BK105.out)
  replace BK106 := Aside0.mk (blk_drew BK106.out)
  replace HB := Aside0.mk (below_drew1 HB.out)
  refine start_ (n := 10) (S := fun w' => w'.cell? ⟨gb105, 0, none⟩ = some (.int .i64 a0_0) ∧ w'.cell? ⟨gb105, 1, none⟩ = some (.int .i64 a0_1)) (ds := []) #[false, false, false, false, false, false, false, false, false, false] (by kernel_rfl) rfl rfl ⟨cw0 BK105, cw1 BK105⟩ (fun hHeld => ?_); refine with_tabW impl_SpotFar.tab3 impl_SpotFar.bits3 (fun HT_ HW_ => ?_)
  generalize w9.drew = w10 at BK105 BK106 HB hHeld ⊢
  refine pU 0 8 #[true, false, false, false, false, false, false, false, false, false] HT_ ?_
  refine pU 3 11 #[true, false, false, true, false, false, false, false, false, false] HT_ ?_
  refine take_ (i := 1) (N := some 9) (v := ?_) (a' := ?_) #[true, true, false, true, false, false, false, false, false, false] rfl rfl (take_ofW HT_.out HW_.out (by kernel_rfl)) (fun _ _ _ h => h) (Or.inl ⟨by rfl, ?_⟩) hHeld ?_ ?_
  rotate_left
  ·rintro w' ⟨s0, s1⟩
   go_simp
   with_reducible rfl
  rotate_left
  ·simp only [Act.put, List.setIfInBounds_toArray, List.set_cons_zero, List.set_cons_succ, i64_w, i32_w]
   rfl
  refine pU 2 10 #[true, true, true, true, false, false, false, false, false, false] HT_ ?_
  refine take_ (i := 4) (N := some 12) (v := ?_) (a' := ?_) #[true, true, true, true, true, false, false, false, false, false] rfl rfl (take_ofW HT_.out HW_.out (by kernel_rfl)) (fun _ _ _ h => h) (Or.inl ⟨by rfl, ?_⟩) hHeld ?_ ?_
  rotate_left
  ·rintro w' ⟨s0, s1⟩
   go_simp
   with_reducible rfl
  rotate_left
  ·simp only [Act.put, List.setIfInBounds_toArray, List.set_cons_zero, List.set_cons_succ, i64_w, i32_w]
   rfl
  refine pU 5 13 #[true, true, true, true, true, true, false, false, false, false] HT_ ?_
  refine oN 6 14 #[true, true, true, true, true, true, true, false, false, false] HT_ (fun K hK => ?_)
  refine gS Try.func45 #[.int .i64 (wrap64 (a0_1 + 64800000)), .int .i64 129600000] ?_
  with_reducible refine (impl_modulo.calls (wrap64 (a0_1 + 64800000)) 129600000 t108 _ A4.out).mono ?_
  rintro e w' ⟨rfl, ⟨nd, rfl⟩⟩
  refine ⟨_, rfl, ?_⟩
  refine hK.out _ _ ⟨cw0 BK105, cw1 BK105⟩ (fun hHeld => ?_)
  clear hK K
  refine nP ?_
  refine pU 7 15 #[true, true, true, true, true, true, true, true, false, false] HT_ ?_
  refine one_ (i := 8) (N := none) #[true, true, true, true, true, true, true, true, true, false] rfl rfl (one_of HT_.out (by kernel_rfl)) (by decide) (fun K hK => ?_)
  have hs11 : w10.cell? ⟨gb106, 0, none⟩ = some (.int .i64 0) := (blk_cell BK106.out 0).trans rfl
  have hfs11 := blk_frozen BK106.out 0
  have hns11_0 := NB105_106.out
  have hms11_0 := NB106_105.out
  have hs12 : w10.cell? ⟨gb106, 1, none⟩ = some (.int .i64 0) := (blk_cell BK106.out 1).trans rfl
  have hfs12 := blk_frozen BK106.out 1
  have hns12_0 := NB105_106.out
  have hms12_0 := NB106_105.out
  refine skip_ (w1 := ?_) (by rfl) rfl ?_ ?_
  rotate_left
  ·go_simp
   rfl
  refine hK.out _ _ ⟨((cell_far (p := ⟨gb106, _, none⟩) NB105_106.out _).trans (((cell_far (p := ⟨gb106, _, none⟩) NB105_106.out _).trans (hHeld.1)))), ((cell_far (p := ⟨gb106, _, none⟩) NB105_106.out _).trans (((cell_far (p := ⟨gb106, _, none⟩) NB105_106.out _).trans (hHeld.2))))⟩ (fun hHeld => ?_)
  clear hK K
  refine pU 9 3 #[true, true, true, true, true, true, true, true, true, true] HT_ ?_
  refine done_ (done_of HT_.out (by kernel_rfl)) ?_
  try go_wp2
  refine bodyPost_ret (results_ct rfl _ _ gb106 24 #[.int .i64 (wrap64 (-a0_0)), .int .i64 t108] (0, 0) _ rfl (bkp BK106) Try.underlying24 rfl (by kernel_rfl)) rfl ?_
  exact ⟨by first | rfl | (simp [errW_none, errW_some] <;> rfl) | (simp [*, errW_none, errW_some] <;> rfl), hzs HB⟩
 ·replace c3 := Bool.eq_false_iff.mpr c3
  subst c3
  have H1 : (some (0, 0, false)) = some (r1, r2, r3) := by rw [if_neg (show ¬ (false = true) by decide)] at H; exact H
  clear H
  have H := H1
  clear H1
  simp only [Option.some.injEq, Prod.mk.injEq] at H
  obtain ⟨rfl, rfl, rfl⟩ := H
  go_enter Try.func19, Try.ntmps19
  go_wp2_with (first | ((with_reducible refine gate_dst (N := 1) rfl ?_); refine bE 1 #[.int .i64 a0_0, .int .i64 a0_1] 24 ?_; intro gb105 hg w13 hbox hb; have BK105 := Aside0.mk (hbox); have GE105 := gw hg (hz0 HB); have GW105 := GE105; replace HB := hbb (hz0 HB) hb; clear hb hbox hg) | ((with_reducible refine gate_dst (N := 2) rfl ?_); refine bE 2 #[.int .i64 0, .int .i64 0] 24 ?_; intro gb106 hg w14 hbox hb; have BK106 := Aside0.mk (hbox); have GE106 := gw hg (hzs HB); have GW106 := GE106; have NB105_106 := nl hg (bk BK105); have NB106_105 := ng hg (bk BK105); replace BK105 := bb (bk BK105) hb; replace HB := hbb (hzs HB) hb; clear hb hbox hg; have hnb15 := NB105_106.out; have hnc15 := NB106_105.out; obtain ⟨hcz16_0, hcz16_1, hfz16_0, hfz16_1⟩ := cz2 BK105) | ((with_reducible refine gate_callee (f := 21) rfl ?_); refine gL 5 Try.func21 #[.agg #[.int .i64 a0_0, .int .i64 a0_1]] ?_; (with_reducible refine (impl_SpotOk.calls a0_0 a0_1 false _ A2.out).mono ?_); rintro e w17 ⟨rfl, hb⟩; refine ⟨_, rfl, ?_⟩; replace BK105 := bb (bk BK105) hb; replace BK106 := bb (bk BK106) hb; replace HB := hbb (hzs HB) hb; clear hb; obtain ⟨hcz18_0, hcz18_1, hfz18_0, hfz18_1⟩ := cz2 BK106))
  refine bodyPost_ret (results_ct rfl _ _ gb106 24 #[.int .i64 0, .int .i64 0] (0, 0) _ rfl (bkp BK106) Try.underlying24 rfl (by kernel_rfl)) rfl ?_
  exact ⟨by first | rfl | (simp [errW_none, errW_some] <;> rfl) | (simp [*, errW_none, errW_some] <;> rfl), hzs HB⟩


end Go.Proofs.Ytmcippkpgmehdaa.M
