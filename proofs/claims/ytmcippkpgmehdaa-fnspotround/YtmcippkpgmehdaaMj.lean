import Derived.Test.YtmcippkpgmehdaaM0
import Derived.Test.YtmcippkpgmehdaaMc
import Derived.Test.YtmcippkpgmehdaaMf
import Derived.Test.YtmcippkpgmehdaaMi
namespace Go.Proofs.Ytmcippkpgmehdaa.M
open Go.RowKit Go.Proofs.YtmcippkpgmehdaaW.PrintWords Go.Proofs.YtmcippkpgmehdaaW.PrintLast Go.Proofs.YtmcippkpgmehdaaW.PrintMore
attribute [local go_sem] max2_int min2_int max_two min_two max_three min_three max_four min_four
attribute [local go_sem high] eqA42 eqA29 eqA24
attribute [local go_sem] fld42_0 fld42_1 fld29_0 fld29_1 fld24_0 fld24_1 fld38_0 fld38_1 fld88_0 fld88_1 fld88_2 fld88_3 fld88_4
set_option linter.unusedVariables false
set_option linter.unusedSimpArgs false

/-! ### impl_clip: function 48 -/
def impl_clip.f (a0_0 : Int) (a0_1 : Int) : Option (Int × Int) := some (mx 0 (mn 1000000000 a0_0), mx 0 (mn 1000000000 a0_1))
set_option maxHeartbeats 8000000 in
set_option maxRecDepth 100000 in
theorem impl_clip.calls (a0_0 : Int) (a0_1 : Int) (r1 : Int) (r2 : Int) (w : World) (h : impl_clip.f a0_0 a0_1 = some (r1, r2)) :
  Calls Try.prog 48 #[.agg #[.int .i64 a0_0, .int .i64 a0_1]] w fun e w' => e = .returned (.agg #[.int .i64 r1, .int .i64 r2]) ∧ Below w.heap.size w w' := by
 have hu42 := Try.underlying42
 have HB := Aside0.mk (Below.refl w.heap.size w)
 have H : (some (mx 0 (mn 1000000000 a0_0), mx 0 (mn 1000000000 a0_1))) = some (r1, r2) := h
 clear h
 obtain ⟨ji2, hji2⟩ : ∃ j_ : Int, (mn 1000000000 a0_0) = j_ := ⟨_, rfl⟩
 replace H : (some (mx 0 (ji2), mx 0 (mn 1000000000 a0_1))) = some (r1, r2) := by first | (rw [hji2] at H; exact H) | (simp only [hji2] at H ⊢; exact H)
 (try (have hji2h : ji2 ≤ 1000000000 := by (rw [← hji2]; unfold mn; (repeat' split) <;> omega)))
 (try (have hji2g : ji2 ≤ 64 := by omega))
 have hji2_ : (if a0_0 < 1000000000 then a0_0 else 1000000000) = ji2 := hji2
 obtain ⟨ji3, hji3⟩ : ∃ j_ : Int, (mx 0 (ji2)) = j_ := ⟨_, rfl⟩
 replace H : (some (ji3, mx 0 (mn 1000000000 a0_1))) = some (r1, r2) := by first | (rw [hji3] at H; exact H) | (simp only [hji3] at H ⊢; exact H)
 have hji3_ : (if 0 < (ji2) then (ji2) else 0) = ji3 := hji3
 obtain ⟨ji4, hji4⟩ : ∃ j_ : Int, (mn 1000000000 a0_1) = j_ := ⟨_, rfl⟩
 replace H : (some (ji3, mx 0 (ji4))) = some (r1, r2) := by first | (rw [hji4] at H; exact H) | (simp only [hji4] at H ⊢; exact H)
 (try (have hji4h : ji4 ≤ 1000000000 := by (rw [← hji4]; unfold mn; (repeat' split) <;> omega)))
 (try (have hji4g : ji4 ≤ 64 := by omega))
 have hji4_ : (if a0_1 < 1000000000 then a0_1 else 1000000000) = ji4 := hji4
 obtain ⟨ji5, hji5⟩ : ∃ j_ : Int, (mx 0 (ji4)) = j_ := ⟨_, rfl⟩
 replace H : (some (ji3, ji5)) = some (r1, r2) := by first | (rw [hji5] at H; exact H) | (simp only [hji5] at H ⊢; exact H)
 have hji5_ : (if 0 < (ji4) then (ji4) else 0) = ji5 := hji5
 simp only [Option.some.injEq, Prod.mk.injEq] at H
 obtain ⟨rfl, rfl⟩ := H
 go_enter Try.func48, Try.ntmps48
 go_wp2_with (first | ((with_reducible refine gate_dst (N := 1) rfl ?_); refine bE 1 #[.int .i64 a0_0, .int .i64 a0_1] 42 ?_; intro gb251 hg w6 hbox hb; have BK251 := Aside0.mk (hbox); have GE251 := gw hg (hz0 HB); replace HB := hbb (hz0 HB) hb; clear hb hbox hg) | ((with_reducible refine gate_dst (N := 2) rfl ?_); refine bE 2 #[.int .i64 0, .int .i64 0] 42 ?_; intro gb252 hg w7 hbox hb; have BK252 := Aside0.mk (hbox); have GE252 := gw hg (hzs HB); have NB251_252 := nl hg (bk BK251); have NB252_251 := ng hg (bk BK251); replace BK251 := bb (bk BK251) hb; replace HB := hbb (hzs HB) hb; clear hb hbox hg; have hnb8 := NB251_252.out; have hnc8 := NB252_251.out; obtain ⟨hcz9_0, hcz9_1, hfz9_0, hfz9_1⟩ := cz2 BK251; obtain ⟨hcz10_0, hcz10_1, hfz10_0, hfz10_1⟩ := cz2 BK252))
 refine bodyPost_ret (results_cell_row rfl _ _ gb252 42 #[.int .i64 ji3, .int .i64 ji5] (0, 0) _ rfl (bkp BK252) Try.underlying42 rfl (by kernel_rfl)) rfl ?_
 exact ⟨by first | rfl | (simp [errW_none, errW_some] <;> rfl) | (simp only [← hji2, ← hji3, ← hji4, ← hji5]; first | rfl | (simp [errW_none, errW_some] <;> rfl)) | (simp [*, errW_none, errW_some] <;> rfl), hzs HB⟩


/-! ### impl_times: function 78 -/
def impl_times.f (k : Nat) (a0_0 : Int) (a0_1 : Int) (a1_0 : Int) (a1_1 : Int) : Option (Int × Int) := (impl_clip.f a0_0 a0_1).bind fun bt311 => ((impl_clip.f a1_0 a1_1).bind fun bt313 => ((impl_SpanMul.f k bt311.1 bt311.2 bt313.1 bt313.2).bind fun bt315 => ((impl_clip.f bt315.1 bt315.2.1).bind fun bt319 => (some (bt319.1, bt319.2)))))
def impl_times.T1 : Bool × List (List Nat × List Nat) := (true, [([], []), ([0], [0]), ([], []), ([2, 1], [2]), ([1, 3, 3], [1, 3]), ([4], [4]), ([5], [5]), ([5], [5]), ([], []), ([8, 6, 4, 0, 1, 2, 3, 4, 5, 6, 8], [6, 8]), ([7, 9, 0, 1, 2, 3, 4, 5, 6, 7, 8, 9], [7])])
def impl_times.B1 : List Nat := [0, 1, 0, 7, 15, 31, 63, 63, 0, 383, 1023]
theorem impl_times.tab1 : rtab .any (opsOf Try.f78 1) = impl_times.T1 := by kernel_rfl
theorem impl_times.bits1 : waitsOk impl_times.T1.2 impl_times.B1 = true := by kernel_rfl
set_option maxHeartbeats 8000000 in
set_option maxRecDepth 100000 in
theorem impl_times.calls (k : Nat) (a0_0 : Int) (a0_1 : Int) (a1_0 : Int) (a1_1 : Int) (r1 : Int) (r2 : Int) (w : World) (h : impl_times.f k a0_0 a0_1 a1_0 a1_1 = some (r1, r2)) :
  Calls Try.prog 78 #[.agg #[.int .i64 a0_0, .int .i64 a0_1], .agg #[.int .i64 a1_0, .int .i64 a1_1]] w fun e w' => e = .returned (.agg #[.int .i64 r1, .int .i64 r2]) ∧ Below w.heap.size w w' := by
 have hu42 := Try.underlying42
 have HB := Aside0.mk (Below.refl w.heap.size w)
 have H : ((impl_clip.f a0_0 a0_1).bind fun bt311 => ((impl_clip.f a1_0 a1_1).bind fun bt313 => ((impl_SpanMul.f k bt311.1 bt311.2 bt313.1 bt313.2).bind fun bt315 => ((impl_clip.f bt315.1 bt315.2.1).bind fun bt319 => (some (bt319.1, bt319.2)))))) = some (r1, r2) := h
 clear h
 replace H := Option.bind_eq_some_iff.mp H
 obtain ⟨⟨t311, t312⟩, A30, H⟩ := H
 try dsimp only at H
 have A3 := Aside0.mk A30
 clear A30
 replace H := Option.bind_eq_some_iff.mp H
 obtain ⟨⟨t313, t314⟩, A40, H⟩ := H
 try dsimp only at H
 have A4 := Aside0.mk A40
 clear A40
 replace H := Option.bind_eq_some_iff.mp H
 obtain ⟨⟨t315, t316, t317⟩, A50, H⟩ := H
 try dsimp only at H
 have A5 := Aside0.mk A50
 clear A50
 replace H := Option.bind_eq_some_iff.mp H
 obtain ⟨⟨t319, t320⟩, A60, H⟩ := H
 try dsimp only at H
 have A6 := Aside0.mk A60
 clear A60
 simp only [Option.some.injEq, Prod.mk.injEq] at H
 obtain ⟨rfl, rfl⟩ := H
 go_enter Try.func78, Try.ntmps78
 try go_wp2_with (first | ((with_reducible refine gate_dst (N := 2) rfl ?_); refine bE 2 #[.int .i64 a0_0, .int .i64 a0_1] 42 ?_; intro gb308 hg w7 hbox hb; have BK308 := Aside0.mk (hbox); have GE308 := gw hg (hz0 HB); replace HB := hbb (hz0 HB) hb; clear hb hbox hg) | ((with_reducible refine gate_dst (N := 3) rfl ?_); refine bE 3 #[.int .i64 a1_0, .int .i64 a1_1] 42 ?_; intro gb309 hg w8 hbox hb; have BK309 := Aside0.mk (hbox); have GE309 := gw hg (hzs HB); have NB308_309 := nl hg (bk BK308); have NB309_308 := ng hg (bk BK308); replace BK308 := bb (bk BK308) hb; replace HB := hbb (hzs HB) hb; clear hb hbox hg) | ((with_reducible refine gate_dst (N := 4) rfl ?_); refine bE 4 #[.int .i64 0, .int .i64 0] 42 ?_; intro gb310 hg w9 hbox hb; have BK310 := Aside0.mk (hbox); have GE310 := gw hg (hzs HB); have NB308_310 := nl hg (bk BK308); have NB310_308 := ng hg (bk BK308); have NB309_310 := nl hg (bk BK309); have NB310_309 := ng hg (bk BK309); replace BK308 := bb (bk BK308) hb; replace BK309 := bb (bk BK309) hb; replace HB := hbb (hzs HB) hb; clear hb hbox hg))
 replace BK308 := Aside0.mk (blk_drew BK308.out)
 replace BK309 := Aside0.mk (blk_drew BK309.out)
 replace BK310 := Aside0.mk (blk_drew BK310.out)
 replace HB := Aside0.mk (below_drew1 HB.out)
 refine start_ (n := 11) (S := fun w' => w'.cell? ⟨gb308, 0, none⟩ = some (.int .i64 a0_0) ∧ w'.cell? ⟨gb308, 1, none⟩ = some (.int .i64 a0_1) ∧ w'.cell? ⟨gb309, 0, none⟩ = some (.int .i64 a1_0) ∧ w'.cell? ⟨gb309, 1, none⟩ = some (.int .i64 a1_1)) (ds := []) #[false, false, false, false, false, false, false, false, false, false, false] (by kernel_rfl) rfl rfl ⟨cw0 BK308, cw1 BK308, cw0 BK309, cw1 BK309⟩ (fun hHeld => ?_); refine with_tabW impl_times.tab1 impl_times.bits1 (fun HT_ HW_ => ?_)
 generalize w9.drew = w10 at BK308 BK309 BK310 HB hHeld ⊢
 refine take_ (i := 0) (N := some 8) (v := ?_) (a' := ?_) #[true, false, false, false, false, false, false, false, false, false, false] rfl rfl (take_ofW HT_.out HW_.out (by kernel_rfl)) (fun _ _ _ h => h) (Or.inl ⟨by rfl, ?_⟩) hHeld ?_ ?_
 rotate_left
 ·rintro w' ⟨s0, s1, s2, s3⟩
  go_simp
  with_reducible rfl
 rotate_left
 ·simp only [Act.put, List.setIfInBounds_toArray, List.set_cons_zero, List.set_cons_succ, i64_w, i32_w]
  rfl
 refine take_ (i := 2) (N := some 10) (v := ?_) (a' := ?_) #[true, false, true, false, false, false, false, false, false, false, false] rfl rfl (take_ofW HT_.out HW_.out (by kernel_rfl)) (fun _ _ _ h => h) (Or.inl ⟨by rfl, ?_⟩) hHeld ?_ ?_
 rotate_left
 ·rintro w' ⟨s0, s1, s2, s3⟩
  go_simp
  with_reducible rfl
 rotate_left
 ·simp only [Act.put, List.setIfInBounds_toArray, List.set_cons_zero, List.set_cons_succ, i64_w, i32_w]
  rfl
 refine join_ (σ := Nat) 2 #[true, true, true, true, true, true, true, true, true, false, false] (fun s_ => [(9, .agg #[.int .i64 t311, .int .i64 t312]), (11, .agg #[.int .i64 t313, .int .i64 t314]), (12, .tuple #[.agg #[.int .i64 t315, .int .i64 t316], .bool t317]), (5, .pointer (some ⟨s_, 0, none⟩)), (7, .tuple #[.agg #[.int .i64 t315, .int .i64 t316], .bool t317]), (13, .agg #[.int .i64 t315, .int .i64 t316]), (14, .bool t317)]) (fun s_ w' => (w'.cell? ⟨gb308, 0, none⟩ = some (.int .i64 a0_0) ∧ w'.cell? ⟨gb308, 1, none⟩ = some (.int .i64 a0_1) ∧ w'.cell? ⟨gb309, 0, none⟩ = some (.int .i64 a1_0) ∧ w'.cell? ⟨gb309, 1, none⟩ = some (.int .i64 a1_1)) ∧ (w'.heap[gb308]? = some (.cells #[.int .i64 a0_0, .int .i64 a0_1] 42 (0, 0))) ∧ (w'.heap[gb309]? = some (.cells #[.int .i64 a1_0, .int .i64 a1_1] 42 (0, 0))) ∧ (w'.heap[gb310]? = some (.cells #[.int .i64 0, .int .i64 0] 42 (0, 0))) ∧ (w'.heap[s_]? = some (.cells #[.int .i64 0, .int .i64 0] 42 (0, 0))) ∧ (w.heap.size ≤ s_) ∧ (w.heap.size ≤ s_) ∧ (gb308 ≠ s_) ∧ (s_ ≠ gb308) ∧ (gb309 ≠ s_) ∧ (s_ ≠ gb309) ∧ (gb310 ≠ s_) ∧ (s_ ≠ gb310) ∧ (Below w.heap.size w w')) ?_ ?_
 rotate_left
 ·intro hCont
  refine tW 1 8 9 5 #[true, true, true, false, false, false, false, false, false, false, false] #[true, false, true, false, false, false, false, false, true, false, false] HT_ (fun K hK => ?_) (fun K hK => ?_)
  ·skip
   refine gS Try.func48 #[.agg #[.int .i64 a0_0, .int .i64 a0_1]] ?_
   with_reducible refine (impl_clip.calls a0_0 a0_1 t311 t312 _ A3.out).mono ?_
   rintro e w11 ⟨rfl, hb⟩
   refine ⟨_, rfl, ?_⟩
   replace BK308 := bb (bk BK308) hb
   replace BK309 := bb (bk BK309) hb
   replace BK310 := bb (bk BK310) hb
   replace HB := hbb (hzs HB) hb
   clear hb
   refine hK.out _ _ ⟨cw0 BK308, cw1 BK308, cw0 BK309, cw1 BK309⟩ (fun hHeld => ?_)
   clear hK K
   refine nP ?_
   refine tW 3 8 11 5 #[true, true, true, true, false, false, false, false, false, false, false] #[true, true, true, false, false, false, false, false, true, false, false] HT_ (fun K hK => ?_) (fun K hK => ?_)
   ·skip
    refine gS Try.func48 #[.agg #[.int .i64 a1_0, .int .i64 a1_1]] ?_
    with_reducible refine (impl_clip.calls a1_0 a1_1 t313 t314 _ A4.out).mono ?_
    rintro e w12 ⟨rfl, hb⟩
    refine ⟨_, rfl, ?_⟩
    replace BK308 := bb (bk BK308) hb
    replace BK309 := bb (bk BK309) hb
    replace BK310 := bb (bk BK310) hb
    replace HB := hbb (hzs HB) hb
    clear hb
    refine hK.out _ _ ⟨cw0 BK308, cw1 BK308, cw0 BK309, cw1 BK309⟩ (fun hHeld => ?_)
    clear hK K
    refine nP ?_
    refine tW 4 8 12 5 #[true, true, true, true, true, false, false, false, false, false, false] #[true, true, true, true, false, false, false, false, true, false, false] HT_ (fun K hK => ?_) (fun K hK => ?_)
    ·skip
     refine gS Try.func77 #[.agg #[.int .i64 t311, .int .i64 t312], .agg #[.int .i64 t313, .int .i64 t314]] ?_
     with_reducible refine (impl_SpanMul.calls k t311 t312 t313 t314 t315 t316 t317 _ A5.out).mono ?_
     rintro e w13 ⟨rfl, hb⟩
     refine ⟨_, rfl, ?_⟩
     replace BK308 := bb (bk BK308) hb
     replace BK309 := bb (bk BK309) hb
     replace BK310 := bb (bk BK310) hb
     replace HB := hbb (hzs HB) hb
     clear hb
     refine hK.out _ _ ⟨cw0 BK308, cw1 BK308, cw0 BK309, cw1 BK309⟩ (fun hHeld => ?_)
     clear hK K
     refine nP ?_
     refine pU 5 7 #[true, true, true, true, true, true, false, false, false, false, false] HT_ ?_
     refine pU 6 13 #[true, true, true, true, true, true, true, false, false, false, false] HT_ ?_
     refine pU 7 14 #[true, true, true, true, true, true, true, true, false, false, false] HT_ ?_
     refine oN 8 5 #[true, true, true, true, true, true, true, true, true, false, false] HT_ (fun K hK => ?_)
     refine bS 5 #[.int .i64 0, .int .i64 0] 42 ?_
     intro gb318 hg w14 hbox hb
     have BK318 := Aside0.mk (hbox)
     have GE318 := gw hg (hzs HB)
     have GW318 := GE318
     have NB308_318 := nl hg (bk BK308)
     have NB318_308 := ng hg (bk BK308)
     have NB309_318 := nl hg (bk BK309)
     have NB318_309 := ng hg (bk BK309)
     have NB310_318 := nl hg (bk BK310)
     have NB318_310 := ng hg (bk BK310)
     replace BK308 := bb (bk BK308) hb
     replace BK309 := bb (bk BK309) hb
     replace BK310 := bb (bk BK310) hb
     replace HB := hbb (hzs HB) hb
     clear hb hbox hg
     refine hK.out _ _ ⟨cw0 BK308, cw1 BK308, cw0 BK309, cw1 BK309⟩ (fun hHeld => ?_)
     clear hK K
     refine nP ?_
     exact nm (hCont (gb318) _ ⟨hHeld, (bk BK308), (bk BK309), (bk BK310), (bk BK318), GW318.out, GE318.out, NB308_318.out, NB318_308.out, NB309_318.out, NB318_309.out, NB310_318.out, NB318_310.out, (hzs HB)⟩)
    ·skip
     refine bS 5 #[.int .i64 0, .int .i64 0] 42 ?_
     intro gb318 hg w13 hbox hb
     have BK318 := Aside0.mk (hbox)
     have GE318 := gw hg (hzs HB)
     have GW318 := GE318
     have NB308_318 := nl hg (bk BK308)
     have NB318_308 := ng hg (bk BK308)
     have NB309_318 := nl hg (bk BK309)
     have NB318_309 := ng hg (bk BK309)
     have NB310_318 := nl hg (bk BK310)
     have NB318_310 := ng hg (bk BK310)
     replace BK308 := bb (bk BK308) hb
     replace BK309 := bb (bk BK309) hb
     replace BK310 := bb (bk BK310) hb
     replace HB := hbb (hzs HB) hb
     clear hb hbox hg
     refine hK.out _ _ ⟨cw0 BK308, cw1 BK308, cw0 BK309, cw1 BK309⟩ (fun hHeld => ?_)
     clear hK K
     refine nP ?_
     refine oN 4 12 #[true, true, true, true, true, false, false, false, true, false, false] HT_ (fun K hK => ?_)
     refine gS Try.func77 #[.agg #[.int .i64 t311, .int .i64 t312], .agg #[.int .i64 t313, .int .i64 t314]] ?_
     with_reducible refine (impl_SpanMul.calls k t311 t312 t313 t314 t315 t316 t317 _ A5.out).mono ?_
     rintro e w14 ⟨rfl, hb⟩
     refine ⟨_, rfl, ?_⟩
     replace BK308 := bb (bk BK308) hb
     replace BK309 := bb (bk BK309) hb
     replace BK310 := bb (bk BK310) hb
     replace BK318 := bb (bk BK318) hb
     replace HB := hbb (hzs HB) hb
     clear hb
     refine hK.out _ _ ⟨cw0 BK308, cw1 BK308, cw0 BK309, cw1 BK309⟩ (fun hHeld => ?_)
     clear hK K
     refine nP ?_
     refine pU 5 7 #[true, true, true, true, true, true, false, false, true, false, false] HT_ ?_
     refine pU 6 13 #[true, true, true, true, true, true, true, false, true, false, false] HT_ ?_
     refine pU 7 14 #[true, true, true, true, true, true, true, true, true, false, false] HT_ ?_
     exact nm (hCont (gb318) _ ⟨hHeld, (bk BK308), (bk BK309), (bk BK310), (bk BK318), GW318.out, GE318.out, NB308_318.out, NB318_308.out, NB309_318.out, NB318_309.out, NB310_318.out, NB318_310.out, (hzs HB)⟩)
   ·skip
    refine bS 5 #[.int .i64 0, .int .i64 0] 42 ?_
    intro gb318 hg w12 hbox hb
    have BK318 := Aside0.mk (hbox)
    have GE318 := gw hg (hzs HB)
    have GW318 := GE318
    have NB308_318 := nl hg (bk BK308)
    have NB318_308 := ng hg (bk BK308)
    have NB309_318 := nl hg (bk BK309)
    have NB318_309 := ng hg (bk BK309)
    have NB310_318 := nl hg (bk BK310)
    have NB318_310 := ng hg (bk BK310)
    replace BK308 := bb (bk BK308) hb
    replace BK309 := bb (bk BK309) hb
    replace BK310 := bb (bk BK310) hb
    replace HB := hbb (hzs HB) hb
    clear hb hbox hg
    refine hK.out _ _ ⟨cw0 BK308, cw1 BK308, cw0 BK309, cw1 BK309⟩ (fun hHeld => ?_)
    clear hK K
    refine nP ?_
    refine oN 3 11 #[true, true, true, true, false, false, false, false, true, false, false] HT_ (fun K hK => ?_)
    refine gS Try.func48 #[.agg #[.int .i64 a1_0, .int .i64 a1_1]] ?_
    with_reducible refine (impl_clip.calls a1_0 a1_1 t313 t314 _ A4.out).mono ?_
    rintro e w13 ⟨rfl, hb⟩
    refine ⟨_, rfl, ?_⟩
    replace BK308 := bb (bk BK308) hb
    replace BK309 := bb (bk BK309) hb
    replace BK310 := bb (bk BK310) hb
    replace BK318 := bb (bk BK318) hb
    replace HB := hbb (hzs HB) hb
    clear hb
    refine hK.out _ _ ⟨cw0 BK308, cw1 BK308, cw0 BK309, cw1 BK309⟩ (fun hHeld => ?_)
    clear hK K
    refine nP ?_
    refine oN 4 12 #[true, true, true, true, true, false, false, false, true, false, false] HT_ (fun K hK => ?_)
    refine gS Try.func77 #[.agg #[.int .i64 t311, .int .i64 t312], .agg #[.int .i64 t313, .int .i64 t314]] ?_
    with_reducible refine (impl_SpanMul.calls k t311 t312 t313 t314 t315 t316 t317 _ A5.out).mono ?_
    rintro e w14 ⟨rfl, hb⟩
    refine ⟨_, rfl, ?_⟩
    replace BK308 := bb (bk BK308) hb
    replace BK309 := bb (bk BK309) hb
    replace BK310 := bb (bk BK310) hb
    replace BK318 := bb (bk BK318) hb
    replace HB := hbb (hzs HB) hb
    clear hb
    refine hK.out _ _ ⟨cw0 BK308, cw1 BK308, cw0 BK309, cw1 BK309⟩ (fun hHeld => ?_)
    clear hK K
    refine nP ?_
    refine pU 5 7 #[true, true, true, true, true, true, false, false, true, false, false] HT_ ?_
    refine pU 6 13 #[true, true, true, true, true, true, true, false, true, false, false] HT_ ?_
    refine pU 7 14 #[true, true, true, true, true, true, true, true, true, false, false] HT_ ?_
    exact nm (hCont (gb318) _ ⟨hHeld, (bk BK308), (bk BK309), (bk BK310), (bk BK318), GW318.out, GE318.out, NB308_318.out, NB318_308.out, NB309_318.out, NB318_309.out, NB310_318.out, NB318_310.out, (hzs HB)⟩)
  ·skip
   refine bS 5 #[.int .i64 0, .int .i64 0] 42 ?_
   intro gb318 hg w11 hbox hb
   have BK318 := Aside0.mk (hbox)
   have GE318 := gw hg (hzs HB)
   have GW318 := GE318
   have NB308_318 := nl hg (bk BK308)
   have NB318_308 := ng hg (bk BK308)
   have NB309_318 := nl hg (bk BK309)
   have NB318_309 := ng hg (bk BK309)
   have NB310_318 := nl hg (bk BK310)
   have NB318_310 := ng hg (bk BK310)
   replace BK308 := bb (bk BK308) hb
   replace BK309 := bb (bk BK309) hb
   replace BK310 := bb (bk BK310) hb
   replace HB := hbb (hzs HB) hb
   clear hb hbox hg
   refine hK.out _ _ ⟨cw0 BK308, cw1 BK308, cw0 BK309, cw1 BK309⟩ (fun hHeld => ?_)
   clear hK K
   refine nP ?_
   refine oN 1 9 #[true, true, true, false, false, false, false, false, true, false, false] HT_ (fun K hK => ?_)
   refine gS Try.func48 #[.agg #[.int .i64 a0_0, .int .i64 a0_1]] ?_
   with_reducible refine (impl_clip.calls a0_0 a0_1 t311 t312 _ A3.out).mono ?_
   rintro e w12 ⟨rfl, hb⟩
   refine ⟨_, rfl, ?_⟩
   replace BK308 := bb (bk BK308) hb
   replace BK309 := bb (bk BK309) hb
   replace BK310 := bb (bk BK310) hb
   replace BK318 := bb (bk BK318) hb
   replace HB := hbb (hzs HB) hb
   clear hb
   refine hK.out _ _ ⟨cw0 BK308, cw1 BK308, cw0 BK309, cw1 BK309⟩ (fun hHeld => ?_)
   clear hK K
   refine nP ?_
   refine oN 3 11 #[true, true, true, true, false, false, false, false, true, false, false] HT_ (fun K hK => ?_)
   refine gS Try.func48 #[.agg #[.int .i64 a1_0, .int .i64 a1_1]] ?_
   with_reducible refine (impl_clip.calls a1_0 a1_1 t313 t314 _ A4.out).mono ?_
   rintro e w13 ⟨rfl, hb⟩
   refine ⟨_, rfl, ?_⟩
   replace BK308 := bb (bk BK308) hb
   replace BK309 := bb (bk BK309) hb
   replace BK310 := bb (bk BK310) hb
   replace BK318 := bb (bk BK318) hb
   replace HB := hbb (hzs HB) hb
   clear hb
   refine hK.out _ _ ⟨cw0 BK308, cw1 BK308, cw0 BK309, cw1 BK309⟩ (fun hHeld => ?_)
   clear hK K
   refine nP ?_
   refine oN 4 12 #[true, true, true, true, true, false, false, false, true, false, false] HT_ (fun K hK => ?_)
   refine gS Try.func77 #[.agg #[.int .i64 t311, .int .i64 t312], .agg #[.int .i64 t313, .int .i64 t314]] ?_
   with_reducible refine (impl_SpanMul.calls k t311 t312 t313 t314 t315 t316 t317 _ A5.out).mono ?_
   rintro e w14 ⟨rfl, hb⟩
   refine ⟨_, rfl, ?_⟩
   replace BK308 := bb (bk BK308) hb
   replace BK309 := bb (bk BK309) hb
   replace BK310 := bb (bk BK310) hb
   replace BK318 := bb (bk BK318) hb
   replace HB := hbb (hzs HB) hb
   clear hb
   refine hK.out _ _ ⟨cw0 BK308, cw1 BK308, cw0 BK309, cw1 BK309⟩ (fun hHeld => ?_)
   clear hK K
   refine nP ?_
   refine pU 5 7 #[true, true, true, true, true, true, false, false, true, false, false] HT_ ?_
   refine pU 6 13 #[true, true, true, true, true, true, true, false, true, false, false] HT_ ?_
   refine pU 7 14 #[true, true, true, true, true, true, true, true, true, false, false] HT_ ?_
   exact nm (hCont (gb318) _ ⟨hHeld, (bk BK308), (bk BK309), (bk BK310), (bk BK318), GW318.out, GE318.out, NB308_318.out, NB318_308.out, NB309_318.out, NB318_309.out, NB310_318.out, NB318_310.out, (hzs HB)⟩)
 rintro gb318 w15 ⟨hS_, h0_, h1_, h2_, h3_, h4_, h5_, h6_, h7_, h8_, h9_, h10_, h11_, h12_⟩
 replace BK308 := Aside0.mk h0_
 replace BK309 := Aside0.mk h1_
 replace BK310 := Aside0.mk h2_
 have BK318 := Aside0.mk h3_
 have GW318 := Aside0.mk h4_
 have GE318 := Aside0.mk h5_
 have NB308_318 := Aside0.mk h6_
 have NB318_308 := Aside0.mk h7_
 have NB309_318 := Aside0.mk h8_
 have NB318_309 := Aside0.mk h9_
 have NB310_318 := Aside0.mk h10_
 have NB318_310 := Aside0.mk h11_
 replace HB := Aside0.mk h12_
 clear h0_ h1_ h2_ h3_ h4_ h5_ h6_ h7_ h8_ h9_ h10_ h11_ h12_
 have hHeld : w15.cell? ⟨gb308, 0, none⟩ = some (.int .i64 a0_0) ∧ w15.cell? ⟨gb308, 1, none⟩ = some (.int .i64 a0_1) ∧ w15.cell? ⟨gb309, 0, none⟩ = some (.int .i64 a1_0) ∧ w15.cell? ⟨gb309, 1, none⟩ = some (.int .i64 a1_1) := hS_
 refine norm_ (a' := ?_) ?_ ?_
 rotate_left
 ·simp only [putAll, Act.put, List.setIfInBounds_toArray, List.set_cons_zero, List.set_cons_succ]
  rfl
 refine one_ (i := 9) (N := none) #[true, true, true, true, true, true, true, true, true, true, false] rfl rfl (one_of HT_.out (by kernel_rfl)) (by decide) (fun K hK => ?_)
 have hs16 : w15.cell? ⟨gb318, 0, none⟩ = some (.int .i64 0) := (blk_cell BK318.out 0).trans rfl
 have hfs16 := blk_frozen BK318.out 0
 have hns16_0 := NB308_318.out
 have hns16_1 := NB309_318.out
 have hns16_2 := NB310_318.out
 have hms16_0 := NB318_308.out
 have hms16_1 := NB318_309.out
 have hms16_2 := NB318_310.out
 have hs17 : w15.cell? ⟨gb318, 1, none⟩ = some (.int .i64 0) := (blk_cell BK318.out 1).trans rfl
 have hfs17 := blk_frozen BK318.out 1
 have hns17_0 := NB308_318.out
 have hns17_1 := NB309_318.out
 have hns17_2 := NB310_318.out
 have hms17_0 := NB318_308.out
 have hms17_1 := NB318_309.out
 have hms17_2 := NB318_310.out
 refine skip_ (w1 := ?_) (by rfl) rfl ?_ ?_
 rotate_left
 ·go_simp
  rfl
 refine hK.out _ _ ⟨((cell_far (p := ⟨gb318, _, none⟩) NB308_318.out _).trans (((cell_far (p := ⟨gb318, _, none⟩) NB308_318.out _).trans (hHeld.1)))), ((cell_far (p := ⟨gb318, _, none⟩) NB308_318.out _).trans (((cell_far (p := ⟨gb318, _, none⟩) NB308_318.out _).trans (hHeld.2.1)))), ((cell_far (p := ⟨gb318, _, none⟩) NB309_318.out _).trans (((cell_far (p := ⟨gb318, _, none⟩) NB309_318.out _).trans (hHeld.2.2.1)))), ((cell_far (p := ⟨gb318, _, none⟩) NB309_318.out _).trans (((cell_far (p := ⟨gb318, _, none⟩) NB309_318.out _).trans (hHeld.2.2.2))))⟩ (fun hHeld => ?_)
 clear hK K
 refine pU 10 6 #[true, true, true, true, true, true, true, true, true, true, true] HT_ ?_
 refine done_ (done_of HT_.out (by kernel_rfl)) ?_
 have hnb18 := NB318_308.out
 have hnc18 := NB308_318.out
 have hnb19 := NB318_309.out
 have hnc19 := NB309_318.out
 have hnb20 := NB318_310.out
 have hnc20 := NB310_318.out
 obtain ⟨hcz21_0, hcz21_1, hfz21_0, hfz21_1⟩ := cz2 BK318
 try go_wp2_with (first | ((with_reducible refine gate_callee (f := 48) rfl ?_); refine gL 16 Try.func48 #[.agg #[.int .i64 t315, .int .i64 t316]] ?_; (with_reducible refine (impl_clip.calls t315 t316 t319 t320 _ A6.out).mono ?_); rintro e w22 ⟨rfl, hb⟩; refine ⟨_, rfl, ?_⟩; replace BK308 := bb (bk1 BK308 NB308_318) hb; replace BK309 := bb (bk1 BK309 NB309_318) hb; replace BK310 := bb (bk1 BK310 NB310_318) hb; replace BK318 := bb (o := .cells #[.int .i64 t315, .int .i64 t316] 42 (0, 0)) (bkp BK318) hb; replace HB := hbb (hzs HB) hb; clear hb; have hnb23 := NB310_308.out; have hnc23 := NB308_310.out; have hnb24 := NB310_309.out; have hnc24 := NB309_310.out; obtain ⟨hcz25_0, hcz25_1, hfz25_0, hfz25_1⟩ := cz2 BK310))
 refine bodyPost_ret (results_cell_row rfl _ _ gb310 42 #[.int .i64 t319, .int .i64 t320] (0, 0) _ rfl (bkp BK310) Try.underlying42 rfl (by kernel_rfl)) rfl ?_
 exact ⟨by first | rfl | (simp [errW_none, errW_some] <;> rfl) | (simp [*, errW_none, errW_some] <;> rfl), hzs HB⟩


/-! ### impl_square: function 47 -/
def impl_square.f (k : Nat) (a0_0 : Int) (a0_1 : Int) (a1_0 : Int) (a1_1 : Int) : Option (Int × Int) := (impl_sine.f k (wrap64 (a1_0 - a0_0))).bind fun bt327 => ((impl_sine.f k (wrap64 (a1_1 - a0_1))).bind fun bt329 => ((impl_SpanMul.f k bt327.1 bt327.2 bt327.1 bt327.2).bind fun bt333 => ((impl_SpanMul.f k bt329.1 bt329.2 bt329.1 bt329.2).bind fun bt337 => ((impl_cosine.f k a0_0).bind fun bt341 => ((impl_cosine.f k a1_0).bind fun bt343 => ((impl_times.f k bt341.1 bt341.2 bt343.1 bt343.2).bind fun bt345 => ((impl_clip.f bt337.1 bt337.2.1).bind fun bt348 => ((impl_SpanMul.f k bt345.1 bt345.2 bt348.1 bt348.2).bind fun bt350 => ((impl_clip.f bt333.1 bt333.2.1).bind fun bt354 => ((impl_clip.f (wrap64 (bt350.1 + bt354.1)) (wrap64 (bt350.2.1 + bt354.2))).bind fun bt356 => (some (bt356.1, bt356.2))))))))))))
def impl_square.T1 : Bool × List (List Nat × List Nat) := (true, [([], []), ([0], [0]), ([], []), ([2], [2]), ([1, 3], [1, 3]), ([4], [4]), ([], []), ([6], [6]), ([], []), ([8], [8]), ([7, 9], [7, 9]), ([10, 5], [10]), ([], []), ([], []), ([12, 5, 11, 0, 1, 2, 3, 4, 5, 12, 13], [5, 12]), ([13, 11, 14, 0, 1, 2, 3, 4, 5, 6, 7, 8, 9, 10, 11, 12, 13, 14], [11, 13])])
def impl_square.B1 : List Nat := [0, 1, 0, 4, 15, 31, 0, 64, 0, 256, 960, 2047, 0, 0, 16383, 32767]
theorem impl_square.tab1 : rtab .any (opsOf Try.f47 1) = impl_square.T1 := by kernel_rfl
theorem impl_square.bits1 : waitsOk impl_square.T1.2 impl_square.B1 = true := by kernel_rfl
def impl_square.T4 : Bool × List (List Nat × List Nat) := (true, [([], []), ([0], [0]), ([1], [1]), ([], []), ([3], [3]), ([4, 2], [4]), ([2, 5, 5], [2, 5]), ([], []), ([7, 6, 6, 0, 1, 2, 3, 4, 5, 6, 7], [6, 7])])
def impl_square.B4 : List Nat := [0, 1, 3, 0, 8, 31, 63, 0, 255]
theorem impl_square.tab4 : rtab .any (opsOf Try.f47 4) = impl_square.T4 := by kernel_rfl
theorem impl_square.bits4 : waitsOk impl_square.T4.2 impl_square.B4 = true := by kernel_rfl
def impl_square.T5 : Bool × List (List Nat × List Nat) := (true, [([], []), ([], []), ([1], [1]), ([0, 2, 2], [0, 2]), ([3], [3]), ([4], [4]), ([4], [4]), ([], []), ([7, 5, 3, 0, 1, 2, 3, 4, 5, 7], [5, 7]), ([6, 8, 0, 1, 2, 3, 4, 5, 6, 7, 8], [6])])
def impl_square.B5 : List Nat := [0, 0, 2, 7, 15, 31, 31, 0, 191, 511]
theorem impl_square.tab5 : rtab .any (opsOf Try.f47 5) = impl_square.T5 := by kernel_rfl
theorem impl_square.bits5 : waitsOk impl_square.T5.2 impl_square.B5 = true := by kernel_rfl
set_option maxHeartbeats 8000000 in
set_option maxRecDepth 100000 in
theorem impl_square.calls (k : Nat) (a0_0 : Int) (a0_1 : Int) (a1_0 : Int) (a1_1 : Int) (r1 : Int) (r2 : Int) (w : World) (h : impl_square.f k a0_0 a0_1 a1_0 a1_1 = some (r1, r2)) :
  Calls Try.prog 47 #[.agg #[.int .i64 a0_0, .int .i64 a0_1], .agg #[.int .i64 a1_0, .int .i64 a1_1]] w fun e w' => e = .returned (.agg #[.int .i64 r1, .int .i64 r2]) ∧ Below w.heap.size w w' := by
 have hu24 := Try.underlying24
 have hu42 := Try.underlying42
 have HB := Aside0.mk (Below.refl w.heap.size w)
 have H : ((impl_sine.f k (wrap64 (a1_0 - a0_0))).bind fun bt327 => ((impl_sine.f k (wrap64 (a1_1 - a0_1))).bind fun bt329 => ((impl_SpanMul.f k bt327.1 bt327.2 bt327.1 bt327.2).bind fun bt333 => ((impl_SpanMul.f k bt329.1 bt329.2 bt329.1 bt329.2).bind fun bt337 => ((impl_cosine.f k a0_0).bind fun bt341 => ((impl_cosine.f k a1_0).bind fun bt343 => ((impl_times.f k bt341.1 bt341.2 bt343.1 bt343.2).bind fun bt345 => ((impl_clip.f bt337.1 bt337.2.1).bind fun bt348 => ((impl_SpanMul.f k bt345.1 bt345.2 bt348.1 bt348.2).bind fun bt350 => ((impl_clip.f bt333.1 bt333.2.1).bind fun bt354 => ((impl_clip.f (wrap64 (bt350.1 + bt354.1)) (wrap64 (bt350.2.1 + bt354.2))).bind fun bt356 => (some (bt356.1, bt356.2))))))))))))) = some (r1, r2) := h
 clear h
 replace H := Option.bind_eq_some_iff.mp H
 obtain ⟨⟨t327, t328⟩, A30, H⟩ := H
 try dsimp only at H
 have A3 := Aside0.mk A30
 clear A30
 replace H := Option.bind_eq_some_iff.mp H
 obtain ⟨⟨t329, t330⟩, A40, H⟩ := H
 try dsimp only at H
 have A4 := Aside0.mk A40
 clear A40
 replace H := Option.bind_eq_some_iff.mp H
 obtain ⟨⟨t333, t334, t335⟩, A50, H⟩ := H
 try dsimp only at H
 have A5 := Aside0.mk A50
 clear A50
 replace H := Option.bind_eq_some_iff.mp H
 obtain ⟨⟨t337, t338, t339⟩, A60, H⟩ := H
 try dsimp only at H
 have A6 := Aside0.mk A60
 clear A60
 replace H := Option.bind_eq_some_iff.mp H
 obtain ⟨⟨t341, t342⟩, A70, H⟩ := H
 try dsimp only at H
 have A7 := Aside0.mk A70
 clear A70
 replace H := Option.bind_eq_some_iff.mp H
 obtain ⟨⟨t343, t344⟩, A80, H⟩ := H
 try dsimp only at H
 have A8 := Aside0.mk A80
 clear A80
 replace H := Option.bind_eq_some_iff.mp H
 obtain ⟨⟨t345, t346⟩, A90, H⟩ := H
 try dsimp only at H
 have A9 := Aside0.mk A90
 clear A90
 replace H := Option.bind_eq_some_iff.mp H
 obtain ⟨⟨t348, t349⟩, A100, H⟩ := H
 try dsimp only at H
 have A10 := Aside0.mk A100
 clear A100
 replace H := Option.bind_eq_some_iff.mp H
 obtain ⟨⟨t350, t351, t352⟩, A110, H⟩ := H
 try dsimp only at H
 have A11 := Aside0.mk A110
 clear A110
 replace H := Option.bind_eq_some_iff.mp H
 obtain ⟨⟨t354, t355⟩, A120, H⟩ := H
 try dsimp only at H
 have A12 := Aside0.mk A120
 clear A120
 replace H := Option.bind_eq_some_iff.mp H
 obtain ⟨⟨t356, t357⟩, A130, H⟩ := H
 try dsimp only at H
 have A13 := Aside0.mk A130
 clear A130
 simp only [Option.some.injEq, Prod.mk.injEq] at H
 obtain ⟨rfl, rfl⟩ := H
 go_enter Try.func47, Try.ntmps47
 try go_wp2_with (first | ((with_reducible refine gate_dst (N := 2) rfl ?_); refine bE 2 #[.int .i64 a0_0, .int .i64 a0_1] 24 ?_; intro gb324 hg w14 hbox hb; have BK324 := Aside0.mk (hbox); have GE324 := gw hg (hz0 HB); replace HB := hbb (hz0 HB) hb; clear hb hbox hg) | ((with_reducible refine gate_dst (N := 3) rfl ?_); refine bE 3 #[.int .i64 a1_0, .int .i64 a1_1] 24 ?_; intro gb325 hg w15 hbox hb; have BK325 := Aside0.mk (hbox); have GE325 := gw hg (hzs HB); have NB324_325 := nl hg (bk BK324); have NB325_324 := ng hg (bk BK324); replace BK324 := bb (bk BK324) hb; replace HB := hbb (hzs HB) hb; clear hb hbox hg) | ((with_reducible refine gate_dst (N := 4) rfl ?_); refine bE 4 #[.int .i64 0, .int .i64 0] 42 ?_; intro gb326 hg w16 hbox hb; have BK326 := Aside0.mk (hbox); have GE326 := gw hg (hzs HB); have NB324_326 := nl hg (bk BK324); have NB326_324 := ng hg (bk BK324); have NB325_326 := nl hg (bk BK325); have NB326_325 := ng hg (bk BK325); replace BK324 := bb (bk BK324) hb; replace BK325 := bb (bk BK325) hb; replace HB := hbb (hzs HB) hb; clear hb hbox hg))
 replace BK324 := Aside0.mk (blk_drew BK324.out)
 replace BK325 := Aside0.mk (blk_drew BK325.out)
 replace BK326 := Aside0.mk (blk_drew BK326.out)
 replace HB := Aside0.mk (below_drew1 HB.out)
 refine start_ (n := 16) (S := fun w' => w'.cell? ⟨gb325, 0, none⟩ = some (.int .i64 a1_0) ∧ w'.cell? ⟨gb325, 1, none⟩ = some (.int .i64 a1_1) ∧ w'.cell? ⟨gb324, 0, none⟩ = some (.int .i64 a0_0) ∧ w'.cell? ⟨gb324, 1, none⟩ = some (.int .i64 a0_1)) (ds := []) #[false, false, false, false, false, false, false, false, false, false, false, false, false, false, false, false] (by kernel_rfl) rfl rfl ⟨cw0 BK325, cw1 BK325, cw0 BK324, cw1 BK324⟩ (fun hHeld => ?_); refine with_tabW impl_square.tab1 impl_square.bits1 (fun HT_ HW_ => ?_)
 generalize w16.drew = w17 at BK324 BK325 BK326 HB hHeld ⊢
 refine pU 0 14 #[true, false, false, false, false, false, false, false, false, false, false, false, false, false, false, false] HT_ ?_
 refine pU 2 16 #[true, false, true, false, false, false, false, false, false, false, false, false, false, false, false, false] HT_ ?_
 refine pU 6 20 #[true, false, true, false, false, false, true, false, false, false, false, false, false, false, false, false] HT_ ?_
 refine pU 8 22 #[true, false, true, false, false, false, true, false, true, false, false, false, false, false, false, false] HT_ ?_
 refine take_ (i := 1) (N := some 15) (v := ?_) (a' := ?_) #[true, true, true, false, false, false, true, false, true, false, false, false, false, false, false, false] rfl rfl (take_ofW HT_.out HW_.out (by kernel_rfl)) (fun _ _ _ h => h) (Or.inl ⟨by rfl, ?_⟩) hHeld ?_ ?_
 rotate_left
 ·rintro w' ⟨s0, s1, s2, s3⟩
  go_simp
  with_reducible rfl
 rotate_left
 ·simp only [Act.put, List.setIfInBounds_toArray, List.set_cons_zero, List.set_cons_succ, i64_w, i32_w]
  rfl
 refine take_ (i := 3) (N := some 17) (v := ?_) (a' := ?_) #[true, true, true, true, false, false, true, false, true, false, false, false, false, false, false, false] rfl rfl (take_ofW HT_.out HW_.out (by kernel_rfl)) (fun _ _ _ h => h) (Or.inl ⟨by rfl, ?_⟩) hHeld ?_ ?_
 rotate_left
 ·rintro w' ⟨s0, s1, s2, s3⟩
  go_simp
  with_reducible rfl
 rotate_left
 ·simp only [Act.put, List.setIfInBounds_toArray, List.set_cons_zero, List.set_cons_succ, i64_w, i32_w]
  rfl
 refine pU 4 18 #[true, true, true, true, true, false, true, false, true, false, false, false, false, false, false, false] HT_ ?_
 refine take_ (i := 7) (N := some 21) (v := ?_) (a' := ?_) #[true, true, true, true, true, false, true, true, true, false, false, false, false, false, false, false] rfl rfl (take_ofW HT_.out HW_.out (by kernel_rfl)) (fun _ _ _ h => h) (Or.inl ⟨by rfl, ?_⟩) hHeld ?_ ?_
 rotate_left
 ·rintro w' ⟨s0, s1, s2, s3⟩
  go_simp
  with_reducible rfl
 rotate_left
 ·simp only [Act.put, List.setIfInBounds_toArray, List.set_cons_zero, List.set_cons_succ, i64_w, i32_w]
  rfl
 refine take_ (i := 9) (N := some 23) (v := ?_) (a' := ?_) #[true, true, true, true, true, false, true, true, true, true, false, false, false, false, false, false] rfl rfl (take_ofW HT_.out HW_.out (by kernel_rfl)) (fun _ _ _ h => h) (Or.inl ⟨by rfl, ?_⟩) hHeld ?_ ?_
 rotate_left
 ·rintro w' ⟨s0, s1, s2, s3⟩
  go_simp
  with_reducible rfl
 rotate_left
 ·simp only [Act.put, List.setIfInBounds_toArray, List.set_cons_zero, List.set_cons_succ, i64_w, i32_w]
  rfl
 refine pU 10 24 #[true, true, true, true, true, false, true, true, true, true, true, false, false, false, false, false] HT_ ?_
 refine join_ (σ := Nat × Nat) 2 #[true, true, true, true, true, true, true, true, true, true, true, true, true, true, false, false] (fun s_ => [(19, .agg #[.int .i64 t327, .int .i64 t328]), (25, .agg #[.int .i64 t329, .int .i64 t330]), (5, .pointer (some ⟨s_.1, 0, none⟩)), (6, .pointer (some ⟨s_.2, 0, none⟩))]) (fun s_ w' => (w'.cell? ⟨gb325, 0, none⟩ = some (.int .i64 a1_0) ∧ w'.cell? ⟨gb325, 1, none⟩ = some (.int .i64 a1_1) ∧ w'.cell? ⟨gb324, 0, none⟩ = some (.int .i64 a0_0) ∧ w'.cell? ⟨gb324, 1, none⟩ = some (.int .i64 a0_1)) ∧ (w'.heap[gb324]? = some (.cells #[.int .i64 a0_0, .int .i64 a0_1] 24 (0, 0))) ∧ (w'.heap[gb325]? = some (.cells #[.int .i64 a1_0, .int .i64 a1_1] 24 (0, 0))) ∧ (w'.heap[gb326]? = some (.cells #[.int .i64 0, .int .i64 0] 42 (0, 0))) ∧ (w'.heap[s_.1]? = some (.cells #[.int .i64 0, .int .i64 0] 42 (0, 0))) ∧ (w'.heap[s_.2]? = some (.cells #[.int .i64 0, .int .i64 0] 42 (0, 0))) ∧ (w.heap.size ≤ s_.1) ∧ (w.heap.size ≤ s_.1) ∧ (gb324 ≠ s_.1) ∧ (s_.1 ≠ gb324) ∧ (gb325 ≠ s_.1) ∧ (s_.1 ≠ gb325) ∧ (gb326 ≠ s_.1) ∧ (s_.1 ≠ gb326) ∧ (s_.2 ≠ s_.1) ∧ (s_.1 ≠ s_.2) ∧ (w.heap.size ≤ s_.2) ∧ (w.heap.size ≤ s_.2) ∧ (gb324 ≠ s_.2) ∧ (s_.2 ≠ gb324) ∧ (gb325 ≠ s_.2) ∧ (s_.2 ≠ gb325) ∧ (gb326 ≠ s_.2) ∧ (s_.2 ≠ gb326) ∧ (Below w.heap.size w w')) ?_ ?_
 rotate_left
 ·intro hJ5_11_12_13
  refine join_ (σ := Nat) 3 #[true, true, true, true, true, true, true, true, true, true, true, true, true, false, false, false] (fun s_ => [(19, .agg #[.int .i64 t327, .int .i64 t328]), (25, .agg #[.int .i64 t329, .int .i64 t330]), (5, .pointer (some ⟨s_, 0, none⟩))]) (fun s_ w' => (w'.cell? ⟨gb325, 0, none⟩ = some (.int .i64 a1_0) ∧ w'.cell? ⟨gb325, 1, none⟩ = some (.int .i64 a1_1) ∧ w'.cell? ⟨gb324, 0, none⟩ = some (.int .i64 a0_0) ∧ w'.cell? ⟨gb324, 1, none⟩ = some (.int .i64 a0_1)) ∧ (w'.heap[gb324]? = some (.cells #[.int .i64 a0_0, .int .i64 a0_1] 24 (0, 0))) ∧ (w'.heap[gb325]? = some (.cells #[.int .i64 a1_0, .int .i64 a1_1] 24 (0, 0))) ∧ (w'.heap[gb326]? = some (.cells #[.int .i64 0, .int .i64 0] 42 (0, 0))) ∧ (w'.heap[s_]? = some (.cells #[.int .i64 0, .int .i64 0] 42 (0, 0))) ∧ (w.heap.size ≤ s_) ∧ (w.heap.size ≤ s_) ∧ (gb324 ≠ s_) ∧ (s_ ≠ gb324) ∧ (gb325 ≠ s_) ∧ (s_ ≠ gb325) ∧ (gb326 ≠ s_) ∧ (s_ ≠ gb326) ∧ (Below w.heap.size w w')) ?_ ?_
  rotate_left
  ·intro hJ5_11_12
   refine join_ (σ := Nat) 3 #[true, true, true, true, true, true, true, true, true, true, true, true, false, true, false, false] (fun s_ => [(19, .agg #[.int .i64 t327, .int .i64 t328]), (25, .agg #[.int .i64 t329, .int .i64 t330]), (6, .pointer (some ⟨s_, 0, none⟩))]) (fun s_ w' => (w'.cell? ⟨gb325, 0, none⟩ = some (.int .i64 a1_0) ∧ w'.cell? ⟨gb325, 1, none⟩ = some (.int .i64 a1_1) ∧ w'.cell? ⟨gb324, 0, none⟩ = some (.int .i64 a0_0) ∧ w'.cell? ⟨gb324, 1, none⟩ = some (.int .i64 a0_1)) ∧ (w'.heap[gb324]? = some (.cells #[.int .i64 a0_0, .int .i64 a0_1] 24 (0, 0))) ∧ (w'.heap[gb325]? = some (.cells #[.int .i64 a1_0, .int .i64 a1_1] 24 (0, 0))) ∧ (w'.heap[gb326]? = some (.cells #[.int .i64 0, .int .i64 0] 42 (0, 0))) ∧ (w'.heap[s_]? = some (.cells #[.int .i64 0, .int .i64 0] 42 (0, 0))) ∧ (w.heap.size ≤ s_) ∧ (w.heap.size ≤ s_) ∧ (gb324 ≠ s_) ∧ (s_ ≠ gb324) ∧ (gb325 ≠ s_) ∧ (s_ ≠ gb325) ∧ (gb326 ≠ s_) ∧ (s_ ≠ gb326) ∧ (Below w.heap.size w w')) ?_ ?_
   rotate_left
   ·intro hJ5_11_13
    refine join_ (σ := Nat × Nat) 3 #[true, true, true, true, true, true, true, true, true, true, true, false, true, true, false, false] (fun s_ => [(19, .agg #[.int .i64 t327, .int .i64 t328]), (5, .pointer (some ⟨s_.1, 0, none⟩)), (6, .pointer (some ⟨s_.2, 0, none⟩))]) (fun s_ w' => (w'.cell? ⟨gb325, 0, none⟩ = some (.int .i64 a1_0) ∧ w'.cell? ⟨gb325, 1, none⟩ = some (.int .i64 a1_1) ∧ w'.cell? ⟨gb324, 0, none⟩ = some (.int .i64 a0_0) ∧ w'.cell? ⟨gb324, 1, none⟩ = some (.int .i64 a0_1)) ∧ (w'.heap[gb324]? = some (.cells #[.int .i64 a0_0, .int .i64 a0_1] 24 (0, 0))) ∧ (w'.heap[gb325]? = some (.cells #[.int .i64 a1_0, .int .i64 a1_1] 24 (0, 0))) ∧ (w'.heap[gb326]? = some (.cells #[.int .i64 0, .int .i64 0] 42 (0, 0))) ∧ (w'.heap[s_.1]? = some (.cells #[.int .i64 0, .int .i64 0] 42 (0, 0))) ∧ (w'.heap[s_.2]? = some (.cells #[.int .i64 0, .int .i64 0] 42 (0, 0))) ∧ (w.heap.size ≤ s_.1) ∧ (w.heap.size ≤ s_.1) ∧ (gb324 ≠ s_.1) ∧ (s_.1 ≠ gb324) ∧ (gb325 ≠ s_.1) ∧ (s_.1 ≠ gb325) ∧ (gb326 ≠ s_.1) ∧ (s_.1 ≠ gb326) ∧ (s_.2 ≠ s_.1) ∧ (s_.1 ≠ s_.2) ∧ (w.heap.size ≤ s_.2) ∧ (w.heap.size ≤ s_.2) ∧ (gb324 ≠ s_.2) ∧ (s_.2 ≠ gb324) ∧ (gb325 ≠ s_.2) ∧ (s_.2 ≠ gb325) ∧ (gb326 ≠ s_.2) ∧ (s_.2 ≠ gb326) ∧ (Below w.heap.size w w')) ?_ ?_
    rotate_left
    ·intro hJ5_12_13
     refine join_ (σ := Unit) 4 #[true, true, true, true, true, true, true, true, true, true, true, true, false, false, false, false] (fun s_ => [(19, .agg #[.int .i64 t327, .int .i64 t328]), (25, .agg #[.int .i64 t329, .int .i64 t330])]) (fun s_ w' => (w'.cell? ⟨gb325, 0, none⟩ = some (.int .i64 a1_0) ∧ w'.cell? ⟨gb325, 1, none⟩ = some (.int .i64 a1_1) ∧ w'.cell? ⟨gb324, 0, none⟩ = some (.int .i64 a0_0) ∧ w'.cell? ⟨gb324, 1, none⟩ = some (.int .i64 a0_1)) ∧ (w'.heap[gb324]? = some (.cells #[.int .i64 a0_0, .int .i64 a0_1] 24 (0, 0))) ∧ (w'.heap[gb325]? = some (.cells #[.int .i64 a1_0, .int .i64 a1_1] 24 (0, 0))) ∧ (w'.heap[gb326]? = some (.cells #[.int .i64 0, .int .i64 0] 42 (0, 0))) ∧ (Below w.heap.size w w')) ?_ ?_
     rotate_left
     ·intro hJ5_11
      refine join_ (σ := Nat) 4 #[true, true, true, true, true, true, true, true, true, true, true, false, true, false, false, false] (fun s_ => [(19, .agg #[.int .i64 t327, .int .i64 t328]), (5, .pointer (some ⟨s_, 0, none⟩))]) (fun s_ w' => (w'.cell? ⟨gb325, 0, none⟩ = some (.int .i64 a1_0) ∧ w'.cell? ⟨gb325, 1, none⟩ = some (.int .i64 a1_1) ∧ w'.cell? ⟨gb324, 0, none⟩ = some (.int .i64 a0_0) ∧ w'.cell? ⟨gb324, 1, none⟩ = some (.int .i64 a0_1)) ∧ (w'.heap[gb324]? = some (.cells #[.int .i64 a0_0, .int .i64 a0_1] 24 (0, 0))) ∧ (w'.heap[gb325]? = some (.cells #[.int .i64 a1_0, .int .i64 a1_1] 24 (0, 0))) ∧ (w'.heap[gb326]? = some (.cells #[.int .i64 0, .int .i64 0] 42 (0, 0))) ∧ (w'.heap[s_]? = some (.cells #[.int .i64 0, .int .i64 0] 42 (0, 0))) ∧ (w.heap.size ≤ s_) ∧ (w.heap.size ≤ s_) ∧ (gb324 ≠ s_) ∧ (s_ ≠ gb324) ∧ (gb325 ≠ s_) ∧ (s_ ≠ gb325) ∧ (gb326 ≠ s_) ∧ (s_ ≠ gb326) ∧ (Below w.heap.size w w')) ?_ ?_
      rotate_left
      ·intro hJ5_12
       refine join_ (σ := Nat) 4 #[true, true, true, true, true, true, true, true, true, true, true, false, false, true, false, false] (fun s_ => [(19, .agg #[.int .i64 t327, .int .i64 t328]), (6, .pointer (some ⟨s_, 0, none⟩))]) (fun s_ w' => (w'.cell? ⟨gb325, 0, none⟩ = some (.int .i64 a1_0) ∧ w'.cell? ⟨gb325, 1, none⟩ = some (.int .i64 a1_1) ∧ w'.cell? ⟨gb324, 0, none⟩ = some (.int .i64 a0_0) ∧ w'.cell? ⟨gb324, 1, none⟩ = some (.int .i64 a0_1)) ∧ (w'.heap[gb324]? = some (.cells #[.int .i64 a0_0, .int .i64 a0_1] 24 (0, 0))) ∧ (w'.heap[gb325]? = some (.cells #[.int .i64 a1_0, .int .i64 a1_1] 24 (0, 0))) ∧ (w'.heap[gb326]? = some (.cells #[.int .i64 0, .int .i64 0] 42 (0, 0))) ∧ (w'.heap[s_]? = some (.cells #[.int .i64 0, .int .i64 0] 42 (0, 0))) ∧ (w.heap.size ≤ s_) ∧ (w.heap.size ≤ s_) ∧ (gb324 ≠ s_) ∧ (s_ ≠ gb324) ∧ (gb325 ≠ s_) ∧ (s_ ≠ gb325) ∧ (gb326 ≠ s_) ∧ (s_ ≠ gb326) ∧ (Below w.heap.size w w')) ?_ ?_
       rotate_left
       ·intro hJ5_13
        refine join_ (σ := Nat × Nat) 4 #[true, true, true, true, true, false, true, true, true, true, true, false, true, true, false, false] (fun s_ => [(5, .pointer (some ⟨s_.1, 0, none⟩)), (6, .pointer (some ⟨s_.2, 0, none⟩))]) (fun s_ w' => (w'.cell? ⟨gb325, 0, none⟩ = some (.int .i64 a1_0) ∧ w'.cell? ⟨gb325, 1, none⟩ = some (.int .i64 a1_1) ∧ w'.cell? ⟨gb324, 0, none⟩ = some (.int .i64 a0_0) ∧ w'.cell? ⟨gb324, 1, none⟩ = some (.int .i64 a0_1)) ∧ (w'.heap[gb324]? = some (.cells #[.int .i64 a0_0, .int .i64 a0_1] 24 (0, 0))) ∧ (w'.heap[gb325]? = some (.cells #[.int .i64 a1_0, .int .i64 a1_1] 24 (0, 0))) ∧ (w'.heap[gb326]? = some (.cells #[.int .i64 0, .int .i64 0] 42 (0, 0))) ∧ (w'.heap[s_.1]? = some (.cells #[.int .i64 0, .int .i64 0] 42 (0, 0))) ∧ (w'.heap[s_.2]? = some (.cells #[.int .i64 0, .int .i64 0] 42 (0, 0))) ∧ (w.heap.size ≤ s_.1) ∧ (w.heap.size ≤ s_.1) ∧ (gb324 ≠ s_.1) ∧ (s_.1 ≠ gb324) ∧ (gb325 ≠ s_.1) ∧ (s_.1 ≠ gb325) ∧ (gb326 ≠ s_.1) ∧ (s_.1 ≠ gb326) ∧ (s_.2 ≠ s_.1) ∧ (s_.1 ≠ s_.2) ∧ (w.heap.size ≤ s_.2) ∧ (w.heap.size ≤ s_.2) ∧ (gb324 ≠ s_.2) ∧ (s_.2 ≠ gb324) ∧ (gb325 ≠ s_.2) ∧ (s_.2 ≠ gb325) ∧ (gb326 ≠ s_.2) ∧ (s_.2 ≠ gb326) ∧ (Below w.heap.size w w')) ?_ ?_
        rotate_left
        ·intro hJ12_13
         refine join_ (σ := Unit) 5 #[true, true, true, true, true, true, true, true, true, true, true, false, false, false, false, false] (fun s_ => [(19, .agg #[.int .i64 t327, .int .i64 t328])]) (fun s_ w' => (w'.cell? ⟨gb325, 0, none⟩ = some (.int .i64 a1_0) ∧ w'.cell? ⟨gb325, 1, none⟩ = some (.int .i64 a1_1) ∧ w'.cell? ⟨gb324, 0, none⟩ = some (.int .i64 a0_0) ∧ w'.cell? ⟨gb324, 1, none⟩ = some (.int .i64 a0_1)) ∧ (w'.heap[gb324]? = some (.cells #[.int .i64 a0_0, .int .i64 a0_1] 24 (0, 0))) ∧ (w'.heap[gb325]? = some (.cells #[.int .i64 a1_0, .int .i64 a1_1] 24 (0, 0))) ∧ (w'.heap[gb326]? = some (.cells #[.int .i64 0, .int .i64 0] 42 (0, 0))) ∧ (Below w.heap.size w w')) ?_ ?_
         rotate_left
         ·intro hJ5
          refine join_ (σ := Nat) 5 #[true, true, true, true, true, false, true, true, true, true, true, false, true, false, false, false] (fun s_ => [(5, .pointer (some ⟨s_, 0, none⟩))]) (fun s_ w' => (w'.cell? ⟨gb325, 0, none⟩ = some (.int .i64 a1_0) ∧ w'.cell? ⟨gb325, 1, none⟩ = some (.int .i64 a1_1) ∧ w'.cell? ⟨gb324, 0, none⟩ = some (.int .i64 a0_0) ∧ w'.cell? ⟨gb324, 1, none⟩ = some (.int .i64 a0_1)) ∧ (w'.heap[gb324]? = some (.cells #[.int .i64 a0_0, .int .i64 a0_1] 24 (0, 0))) ∧ (w'.heap[gb325]? = some (.cells #[.int .i64 a1_0, .int .i64 a1_1] 24 (0, 0))) ∧ (w'.heap[gb326]? = some (.cells #[.int .i64 0, .int .i64 0] 42 (0, 0))) ∧ (w'.heap[s_]? = some (.cells #[.int .i64 0, .int .i64 0] 42 (0, 0))) ∧ (w.heap.size ≤ s_) ∧ (w.heap.size ≤ s_) ∧ (gb324 ≠ s_) ∧ (s_ ≠ gb324) ∧ (gb325 ≠ s_) ∧ (s_ ≠ gb325) ∧ (gb326 ≠ s_) ∧ (s_ ≠ gb326) ∧ (Below w.heap.size w w')) ?_ ?_
          rotate_left
          ·intro hJ12
           refine join_ (σ := Nat) 5 #[true, true, true, true, true, false, true, true, true, true, true, false, false, true, false, false] (fun s_ => [(6, .pointer (some ⟨s_, 0, none⟩))]) (fun s_ w' => (w'.cell? ⟨gb325, 0, none⟩ = some (.int .i64 a1_0) ∧ w'.cell? ⟨gb325, 1, none⟩ = some (.int .i64 a1_1) ∧ w'.cell? ⟨gb324, 0, none⟩ = some (.int .i64 a0_0) ∧ w'.cell? ⟨gb324, 1, none⟩ = some (.int .i64 a0_1)) ∧ (w'.heap[gb324]? = some (.cells #[.int .i64 a0_0, .int .i64 a0_1] 24 (0, 0))) ∧ (w'.heap[gb325]? = some (.cells #[.int .i64 a1_0, .int .i64 a1_1] 24 (0, 0))) ∧ (w'.heap[gb326]? = some (.cells #[.int .i64 0, .int .i64 0] 42 (0, 0))) ∧ (w'.heap[s_]? = some (.cells #[.int .i64 0, .int .i64 0] 42 (0, 0))) ∧ (w.heap.size ≤ s_) ∧ (w.heap.size ≤ s_) ∧ (gb324 ≠ s_) ∧ (s_ ≠ gb324) ∧ (gb325 ≠ s_) ∧ (s_ ≠ gb325) ∧ (gb326 ≠ s_) ∧ (s_ ≠ gb326) ∧ (Below w.heap.size w w')) ?_ ?_
           rotate_left
           ·intro hJ13
            refine three_ (i := 5) (j := 12) (k := 13) (Ni := some 19) (Nj := some 5) (Nk := some 6) #[true, true, true, true, true, true, true, true, true, true, true, false, false, false, false, false] #[true, true, true, true, true, false, true, true, true, true, true, false, true, false, false, false] #[true, true, true, true, true, false, true, true, true, true, true, false, false, true, false, false] rfl rfl rfl rfl rfl rfl (three_of HT_.out (by kernel_rfl)) (by decide) (by decide) (by decide) (fun K hK => ?_) (fun K hK => ?_) (fun K hK => ?_)
            ·skip
             refine gS Try.func76 #[.int .i64 (wrap64 (a1_0 - a0_0))] ?_
             with_reducible refine (impl_sine.calls k (wrap64 (a1_0 - a0_0)) t327 t328 _ A3.out).mono ?_
             rintro e w18 ⟨rfl, hb⟩
             refine ⟨_, rfl, ?_⟩
             replace BK324 := bb (bk BK324) hb
             replace BK325 := bb (bk BK325) hb
             replace BK326 := bb (bk BK326) hb
             replace HB := hbb (hzs HB) hb
             clear hb
             refine hK.out _ _ ⟨cw0 BK325, cw1 BK325, cw0 BK324, cw1 BK324⟩ (fun hHeld => ?_)
             clear hK K
             refine nP ?_
             exact nm (hJ5 () _ ⟨hHeld, (bk BK324), (bk BK325), (bk BK326), (hzs HB)⟩)
            ·skip
             refine bS 5 #[.int .i64 0, .int .i64 0] 42 ?_
             intro gb331 hg w18 hbox hb
             have BK331 := Aside0.mk (hbox)
             have GE331 := gw hg (hzs HB)
             have GW331 := GE331
             have NB324_331 := nl hg (bk BK324)
             have NB331_324 := ng hg (bk BK324)
             have NB325_331 := nl hg (bk BK325)
             have NB331_325 := ng hg (bk BK325)
             have NB326_331 := nl hg (bk BK326)
             have NB331_326 := ng hg (bk BK326)
             replace BK324 := bb (bk BK324) hb
             replace BK325 := bb (bk BK325) hb
             replace BK326 := bb (bk BK326) hb
             replace HB := hbb (hzs HB) hb
             clear hb hbox hg
             refine hK.out _ _ ⟨cw0 BK325, cw1 BK325, cw0 BK324, cw1 BK324⟩ (fun hHeld => ?_)
             clear hK K
             refine nP ?_
             exact nm (hJ12 (gb331) _ ⟨hHeld, (bk BK324), (bk BK325), (bk BK326), (bk BK331), GW331.out, GE331.out, NB324_331.out, NB331_324.out, NB325_331.out, NB331_325.out, NB326_331.out, NB331_326.out, (hzs HB)⟩)
            ·skip
             refine bS 6 #[.int .i64 0, .int .i64 0] 42 ?_
             intro gb332 hg w18 hbox hb
             have BK332 := Aside0.mk (hbox)
             have GE332 := gw hg (hzs HB)
             have GW332 := GE332
             have NB324_332 := nl hg (bk BK324)
             have NB332_324 := ng hg (bk BK324)
             have NB325_332 := nl hg (bk BK325)
             have NB332_325 := ng hg (bk BK325)
             have NB326_332 := nl hg (bk BK326)
             have NB332_326 := ng hg (bk BK326)
             replace BK324 := bb (bk BK324) hb
             replace BK325 := bb (bk BK325) hb
             replace BK326 := bb (bk BK326) hb
             replace HB := hbb (hzs HB) hb
             clear hb hbox hg
             refine hK.out _ _ ⟨cw0 BK325, cw1 BK325, cw0 BK324, cw1 BK324⟩ (fun hHeld => ?_)
             clear hK K
             refine nP ?_
             exact nm (hJ13 (gb332) _ ⟨hHeld, (bk BK324), (bk BK325), (bk BK326), (bk BK332), GW332.out, GE332.out, NB324_332.out, NB332_324.out, NB325_332.out, NB332_325.out, NB326_332.out, NB332_326.out, (hzs HB)⟩)
           ·skip
            rintro gb332 w19 ⟨hS_, h0_, h1_, h2_, h3_, h4_, h5_, h6_, h7_, h8_, h9_, h10_, h11_, h12_⟩
            replace BK324 := Aside0.mk h0_
            replace BK325 := Aside0.mk h1_
            replace BK326 := Aside0.mk h2_
            have BK332 := Aside0.mk h3_
            have GW332 := Aside0.mk h4_
            have GE332 := Aside0.mk h5_
            have NB324_332 := Aside0.mk h6_
            have NB332_324 := Aside0.mk h7_
            have NB325_332 := Aside0.mk h8_
            have NB332_325 := Aside0.mk h9_
            have NB326_332 := Aside0.mk h10_
            have NB332_326 := Aside0.mk h11_
            replace HB := Aside0.mk h12_
            clear h0_ h1_ h2_ h3_ h4_ h5_ h6_ h7_ h8_ h9_ h10_ h11_ h12_
            have hHeld : w19.cell? ⟨gb325, 0, none⟩ = some (.int .i64 a1_0) ∧ w19.cell? ⟨gb325, 1, none⟩ = some (.int .i64 a1_1) ∧ w19.cell? ⟨gb324, 0, none⟩ = some (.int .i64 a0_0) ∧ w19.cell? ⟨gb324, 1, none⟩ = some (.int .i64 a0_1) := hS_
            refine norm_ (a' := ?_) ?_ ?_
            rotate_left
            ·simp only [putAll, Act.put, List.setIfInBounds_toArray, List.set_cons_zero, List.set_cons_succ]
             rfl
            refine tW 5 12 19 5 #[true, true, true, true, true, true, true, true, true, true, true, false, false, true, false, false] #[true, true, true, true, true, false, true, true, true, true, true, false, true, true, false, false] HT_ (fun K hK => ?_) (fun K hK => ?_)
            ·skip
             refine gS Try.func76 #[.int .i64 (wrap64 (a1_0 - a0_0))] ?_
             with_reducible refine (impl_sine.calls k (wrap64 (a1_0 - a0_0)) t327 t328 _ A3.out).mono ?_
             rintro e w20 ⟨rfl, hb⟩
             refine ⟨_, rfl, ?_⟩
             replace BK324 := bb (bk BK324) hb
             replace BK325 := bb (bk BK325) hb
             replace BK326 := bb (bk BK326) hb
             replace BK332 := bb (bk BK332) hb
             replace HB := hbb (hzs HB) hb
             clear hb
             refine hK.out _ _ ⟨cw0 BK325, cw1 BK325, cw0 BK324, cw1 BK324⟩ (fun hHeld => ?_)
             clear hK K
             refine nP ?_
             exact nm (hJ5_13 (gb332) _ ⟨hHeld, (bk BK324), (bk BK325), (bk BK326), (bk BK332), GW332.out, GE332.out, NB324_332.out, NB332_324.out, NB325_332.out, NB332_325.out, NB326_332.out, NB332_326.out, (hzs HB)⟩)
            ·skip
             refine bS 5 #[.int .i64 0, .int .i64 0] 42 ?_
             intro gb331 hg w20 hbox hb
             have BK331 := Aside0.mk (hbox)
             have GE331 := gw hg (hzs HB)
             have GW331 := GE331
             have NB324_331 := nl hg (bk BK324)
             have NB331_324 := ng hg (bk BK324)
             have NB325_331 := nl hg (bk BK325)
             have NB331_325 := ng hg (bk BK325)
             have NB326_331 := nl hg (bk BK326)
             have NB331_326 := ng hg (bk BK326)
             have NB332_331 := nl hg (bk BK332)
             have NB331_332 := ng hg (bk BK332)
             replace BK324 := bb (bk BK324) hb
             replace BK325 := bb (bk BK325) hb
             replace BK326 := bb (bk BK326) hb
             replace BK332 := bb (bk BK332) hb
             replace HB := hbb (hzs HB) hb
             clear hb hbox hg
             refine hK.out _ _ ⟨cw0 BK325, cw1 BK325, cw0 BK324, cw1 BK324⟩ (fun hHeld => ?_)
             clear hK K
             refine nP ?_
             exact nm (hJ12_13 (gb331, gb332) _ ⟨hHeld, (bk BK324), (bk BK325), (bk BK326), (bk BK331), (bk BK332), GW331.out, GE331.out, NB324_331.out, NB331_324.out, NB325_331.out, NB331_325.out, NB326_331.out, NB331_326.out, NB332_331.out, NB331_332.out, GW332.out, GE332.out, NB324_332.out, NB332_324.out, NB325_332.out, NB332_325.out, NB326_332.out, NB332_326.out, (hzs HB)⟩)
          ·skip
           rintro gb331 w19 ⟨hS_, h0_, h1_, h2_, h3_, h4_, h5_, h6_, h7_, h8_, h9_, h10_, h11_, h12_⟩
           replace BK324 := Aside0.mk h0_
           replace BK325 := Aside0.mk h1_
           replace BK326 := Aside0.mk h2_
           have BK331 := Aside0.mk h3_
           have GW331 := Aside0.mk h4_
           have GE331 := Aside0.mk h5_
           have NB324_331 := Aside0.mk h6_
           have NB331_324 := Aside0.mk h7_
           have NB325_331 := Aside0.mk h8_
           have NB331_325 := Aside0.mk h9_
           have NB326_331 := Aside0.mk h10_
           have NB331_326 := Aside0.mk h11_
           replace HB := Aside0.mk h12_
           clear h0_ h1_ h2_ h3_ h4_ h5_ h6_ h7_ h8_ h9_ h10_ h11_ h12_
           have hHeld : w19.cell? ⟨gb325, 0, none⟩ = some (.int .i64 a1_0) ∧ w19.cell? ⟨gb325, 1, none⟩ = some (.int .i64 a1_1) ∧ w19.cell? ⟨gb324, 0, none⟩ = some (.int .i64 a0_0) ∧ w19.cell? ⟨gb324, 1, none⟩ = some (.int .i64 a0_1) := hS_
           refine norm_ (a' := ?_) ?_ ?_
           rotate_left
           ·simp only [putAll, Act.put, List.setIfInBounds_toArray, List.set_cons_zero, List.set_cons_succ]
            rfl
           refine tW 5 13 19 6 #[true, true, true, true, true, true, true, true, true, true, true, false, true, false, false, false] #[true, true, true, true, true, false, true, true, true, true, true, false, true, true, false, false] HT_ (fun K hK => ?_) (fun K hK => ?_)
           ·skip
            refine gS Try.func76 #[.int .i64 (wrap64 (a1_0 - a0_0))] ?_
            with_reducible refine (impl_sine.calls k (wrap64 (a1_0 - a0_0)) t327 t328 _ A3.out).mono ?_
            rintro e w20 ⟨rfl, hb⟩
            refine ⟨_, rfl, ?_⟩
            replace BK324 := bb (bk BK324) hb
            replace BK325 := bb (bk BK325) hb
            replace BK326 := bb (bk BK326) hb
            replace BK331 := bb (bk BK331) hb
            replace HB := hbb (hzs HB) hb
            clear hb
            refine hK.out _ _ ⟨cw0 BK325, cw1 BK325, cw0 BK324, cw1 BK324⟩ (fun hHeld => ?_)
            clear hK K
            refine nP ?_
            exact nm (hJ5_12 (gb331) _ ⟨hHeld, (bk BK324), (bk BK325), (bk BK326), (bk BK331), GW331.out, GE331.out, NB324_331.out, NB331_324.out, NB325_331.out, NB331_325.out, NB326_331.out, NB331_326.out, (hzs HB)⟩)
           ·skip
            refine bS 6 #[.int .i64 0, .int .i64 0] 42 ?_
            intro gb332 hg w20 hbox hb
            have BK332 := Aside0.mk (hbox)
            have GE332 := gw hg (hzs HB)
            have GW332 := GE332
            have NB324_332 := nl hg (bk BK324)
            have NB332_324 := ng hg (bk BK324)
            have NB325_332 := nl hg (bk BK325)
            have NB332_325 := ng hg (bk BK325)
            have NB326_332 := nl hg (bk BK326)
            have NB332_326 := ng hg (bk BK326)
            have NB331_332 := nl hg (bk BK331)
            have NB332_331 := ng hg (bk BK331)
            replace BK324 := bb (bk BK324) hb
            replace BK325 := bb (bk BK325) hb
            replace BK326 := bb (bk BK326) hb
            replace BK331 := bb (bk BK331) hb
            replace HB := hbb (hzs HB) hb
            clear hb hbox hg
            refine hK.out _ _ ⟨cw0 BK325, cw1 BK325, cw0 BK324, cw1 BK324⟩ (fun hHeld => ?_)
            clear hK K
            refine nP ?_
            exact nm (hJ12_13 (gb331, gb332) _ ⟨hHeld, (bk BK324), (bk BK325), (bk BK326), (bk BK331), (bk BK332), GW331.out, GE331.out, NB324_331.out, NB331_324.out, NB325_331.out, NB331_325.out, NB326_331.out, NB331_326.out, NB332_331.out, NB331_332.out, GW332.out, GE332.out, NB324_332.out, NB332_324.out, NB325_332.out, NB332_325.out, NB326_332.out, NB332_326.out, (hzs HB)⟩)
         ·skip
          rintro _ w19 ⟨hS_, h0_, h1_, h2_, h3_⟩
          replace BK324 := Aside0.mk h0_
          replace BK325 := Aside0.mk h1_
          replace BK326 := Aside0.mk h2_
          replace HB := Aside0.mk h3_
          clear h0_ h1_ h2_ h3_
          have hHeld : w19.cell? ⟨gb325, 0, none⟩ = some (.int .i64 a1_0) ∧ w19.cell? ⟨gb325, 1, none⟩ = some (.int .i64 a1_1) ∧ w19.cell? ⟨gb324, 0, none⟩ = some (.int .i64 a0_0) ∧ w19.cell? ⟨gb324, 1, none⟩ = some (.int .i64 a0_1) := hS_
          refine norm_ (a' := ?_) ?_ ?_
          rotate_left
          ·simp only [putAll, Act.put, List.setIfInBounds_toArray, List.set_cons_zero, List.set_cons_succ]
           rfl
          refine three_ (i := 11) (j := 12) (k := 13) (Ni := some 25) (Nj := some 5) (Nk := some 6) #[true, true, true, true, true, true, true, true, true, true, true, true, false, false, false, false] #[true, true, true, true, true, true, true, true, true, true, true, false, true, false, false, false] #[true, true, true, true, true, true, true, true, true, true, true, false, false, true, false, false] rfl rfl rfl rfl rfl rfl (three_of HT_.out (by kernel_rfl)) (by decide) (by decide) (by decide) (fun K hK => ?_) (fun K hK => ?_) (fun K hK => ?_)
          ·skip
           refine gS Try.func76 #[.int .i64 (wrap64 (a1_1 - a0_1))] ?_
           with_reducible refine (impl_sine.calls k (wrap64 (a1_1 - a0_1)) t329 t330 _ A4.out).mono ?_
           rintro e w20 ⟨rfl, hb⟩
           refine ⟨_, rfl, ?_⟩
           replace BK324 := bb (bk BK324) hb
           replace BK325 := bb (bk BK325) hb
           replace BK326 := bb (bk BK326) hb
           replace HB := hbb (hzs HB) hb
           clear hb
           refine hK.out _ _ ⟨cw0 BK325, cw1 BK325, cw0 BK324, cw1 BK324⟩ (fun hHeld => ?_)
           clear hK K
           refine nP ?_
           exact nm (hJ5_11 () _ ⟨hHeld, (bk BK324), (bk BK325), (bk BK326), (hzs HB)⟩)
          ·skip
           refine bS 5 #[.int .i64 0, .int .i64 0] 42 ?_
           intro gb331 hg w20 hbox hb
           have BK331 := Aside0.mk (hbox)
           have GE331 := gw hg (hzs HB)
           have GW331 := GE331
           have NB324_331 := nl hg (bk BK324)
           have NB331_324 := ng hg (bk BK324)
           have NB325_331 := nl hg (bk BK325)
           have NB331_325 := ng hg (bk BK325)
           have NB326_331 := nl hg (bk BK326)
           have NB331_326 := ng hg (bk BK326)
           replace BK324 := bb (bk BK324) hb
           replace BK325 := bb (bk BK325) hb
           replace BK326 := bb (bk BK326) hb
           replace HB := hbb (hzs HB) hb
           clear hb hbox hg
           refine hK.out _ _ ⟨cw0 BK325, cw1 BK325, cw0 BK324, cw1 BK324⟩ (fun hHeld => ?_)
           clear hK K
           refine nP ?_
           exact nm (hJ5_12 (gb331) _ ⟨hHeld, (bk BK324), (bk BK325), (bk BK326), (bk BK331), GW331.out, GE331.out, NB324_331.out, NB331_324.out, NB325_331.out, NB331_325.out, NB326_331.out, NB331_326.out, (hzs HB)⟩)
          ·skip
           refine bS 6 #[.int .i64 0, .int .i64 0] 42 ?_
           intro gb332 hg w20 hbox hb
           have BK332 := Aside0.mk (hbox)
           have GE332 := gw hg (hzs HB)
           have GW332 := GE332
           have NB324_332 := nl hg (bk BK324)
           have NB332_324 := ng hg (bk BK324)
           have NB325_332 := nl hg (bk BK325)
           have NB332_325 := ng hg (bk BK325)
           have NB326_332 := nl hg (bk BK326)
           have NB332_326 := ng hg (bk BK326)
           replace BK324 := bb (bk BK324) hb
           replace BK325 := bb (bk BK325) hb
           replace BK326 := bb (bk BK326) hb
           replace HB := hbb (hzs HB) hb
           clear hb hbox hg
           refine hK.out _ _ ⟨cw0 BK325, cw1 BK325, cw0 BK324, cw1 BK324⟩ (fun hHeld => ?_)
           clear hK K
           refine nP ?_
           exact nm (hJ5_13 (gb332) _ ⟨hHeld, (bk BK324), (bk BK325), (bk BK326), (bk BK332), GW332.out, GE332.out, NB324_332.out, NB332_324.out, NB325_332.out, NB332_325.out, NB326_332.out, NB332_326.out, (hzs HB)⟩)
        ·skip
         rintro ⟨gb331, gb332⟩ w20 ⟨hS_, h0_, h1_, h2_, h3_, h4_, h5_, h6_, h7_, h8_, h9_, h10_, h11_, h12_, h13_, h14_, h15_, h16_, h17_, h18_, h19_, h20_, h21_, h22_, h23_⟩
         replace BK324 := Aside0.mk h0_
         replace BK325 := Aside0.mk h1_
         replace BK326 := Aside0.mk h2_
         have BK331 := Aside0.mk h3_
         have BK332 := Aside0.mk h4_
         have GW331 := Aside0.mk h5_
         have GE331 := Aside0.mk h6_
         have NB324_331 := Aside0.mk h7_
         have NB331_324 := Aside0.mk h8_
         have NB325_331 := Aside0.mk h9_
         have NB331_325 := Aside0.mk h10_
         have NB326_331 := Aside0.mk h11_
         have NB331_326 := Aside0.mk h12_
         have NB332_331 := Aside0.mk h13_
         have NB331_332 := Aside0.mk h14_
         have GW332 := Aside0.mk h15_
         have GE332 := Aside0.mk h16_
         have NB324_332 := Aside0.mk h17_
         have NB332_324 := Aside0.mk h18_
         have NB325_332 := Aside0.mk h19_
         have NB332_325 := Aside0.mk h20_
         have NB326_332 := Aside0.mk h21_
         have NB332_326 := Aside0.mk h22_
         replace HB := Aside0.mk h23_
         clear h0_ h1_ h2_ h3_ h4_ h5_ h6_ h7_ h8_ h9_ h10_ h11_ h12_ h13_ h14_ h15_ h16_ h17_ h18_ h19_ h20_ h21_ h22_ h23_
         have hHeld : w20.cell? ⟨gb325, 0, none⟩ = some (.int .i64 a1_0) ∧ w20.cell? ⟨gb325, 1, none⟩ = some (.int .i64 a1_1) ∧ w20.cell? ⟨gb324, 0, none⟩ = some (.int .i64 a0_0) ∧ w20.cell? ⟨gb324, 1, none⟩ = some (.int .i64 a0_1) := hS_
         refine norm_ (a' := ?_) ?_ ?_
         rotate_left
         ·simp only [putAll, Act.put, List.setIfInBounds_toArray, List.set_cons_zero, List.set_cons_succ]
          rfl
         refine oN 5 19 #[true, true, true, true, true, true, true, true, true, true, true, false, true, true, false, false] HT_ (fun K hK => ?_)
         refine gS Try.func76 #[.int .i64 (wrap64 (a1_0 - a0_0))] ?_
         with_reducible refine (impl_sine.calls k (wrap64 (a1_0 - a0_0)) t327 t328 _ A3.out).mono ?_
         rintro e w21 ⟨rfl, hb⟩
         refine ⟨_, rfl, ?_⟩
         replace BK324 := bb (bk BK324) hb
         replace BK325 := bb (bk BK325) hb
         replace BK326 := bb (bk BK326) hb
         replace BK331 := bb (bk BK331) hb
         replace BK332 := bb (bk BK332) hb
         replace HB := hbb (hzs HB) hb
         clear hb
         refine hK.out _ _ ⟨cw0 BK325, cw1 BK325, cw0 BK324, cw1 BK324⟩ (fun hHeld => ?_)
         clear hK K
         refine nP ?_
         exact nm (hJ5_12_13 (gb331, gb332) _ ⟨hHeld, (bk BK324), (bk BK325), (bk BK326), (bk BK331), (bk BK332), GW331.out, GE331.out, NB324_331.out, NB331_324.out, NB325_331.out, NB331_325.out, NB326_331.out, NB331_326.out, NB332_331.out, NB331_332.out, GW332.out, GE332.out, NB324_332.out, NB332_324.out, NB325_332.out, NB332_325.out, NB326_332.out, NB332_326.out, (hzs HB)⟩)
       ·skip
        rintro gb332 w20 ⟨hS_, h0_, h1_, h2_, h3_, h4_, h5_, h6_, h7_, h8_, h9_, h10_, h11_, h12_⟩
        replace BK324 := Aside0.mk h0_
        replace BK325 := Aside0.mk h1_
        replace BK326 := Aside0.mk h2_
        have BK332 := Aside0.mk h3_
        have GW332 := Aside0.mk h4_
        have GE332 := Aside0.mk h5_
        have NB324_332 := Aside0.mk h6_
        have NB332_324 := Aside0.mk h7_
        have NB325_332 := Aside0.mk h8_
        have NB332_325 := Aside0.mk h9_
        have NB326_332 := Aside0.mk h10_
        have NB332_326 := Aside0.mk h11_
        replace HB := Aside0.mk h12_
        clear h0_ h1_ h2_ h3_ h4_ h5_ h6_ h7_ h8_ h9_ h10_ h11_ h12_
        have hHeld : w20.cell? ⟨gb325, 0, none⟩ = some (.int .i64 a1_0) ∧ w20.cell? ⟨gb325, 1, none⟩ = some (.int .i64 a1_1) ∧ w20.cell? ⟨gb324, 0, none⟩ = some (.int .i64 a0_0) ∧ w20.cell? ⟨gb324, 1, none⟩ = some (.int .i64 a0_1) := hS_
        refine norm_ (a' := ?_) ?_ ?_
        rotate_left
        ·simp only [putAll, Act.put, List.setIfInBounds_toArray, List.set_cons_zero, List.set_cons_succ]
         rfl
        refine tW 11 12 25 5 #[true, true, true, true, true, true, true, true, true, true, true, true, false, true, false, false] #[true, true, true, true, true, true, true, true, true, true, true, false, true, true, false, false] HT_ (fun K hK => ?_) (fun K hK => ?_)
        ·skip
         refine gS Try.func76 #[.int .i64 (wrap64 (a1_1 - a0_1))] ?_
         with_reducible refine (impl_sine.calls k (wrap64 (a1_1 - a0_1)) t329 t330 _ A4.out).mono ?_
         rintro e w21 ⟨rfl, hb⟩
         refine ⟨_, rfl, ?_⟩
         replace BK324 := bb (bk BK324) hb
         replace BK325 := bb (bk BK325) hb
         replace BK326 := bb (bk BK326) hb
         replace BK332 := bb (bk BK332) hb
         replace HB := hbb (hzs HB) hb
         clear hb
         refine hK.out _ _ ⟨cw0 BK325, cw1 BK325, cw0 BK324, cw1 BK324⟩ (fun hHeld => ?_)
         clear hK K
         refine nP ?_
         exact nm (hJ5_11_13 (gb332) _ ⟨hHeld, (bk BK324), (bk BK325), (bk BK326), (bk BK332), GW332.out, GE332.out, NB324_332.out, NB332_324.out, NB325_332.out, NB332_325.out, NB326_332.out, NB332_326.out, (hzs HB)⟩)
        ·skip
         refine bS 5 #[.int .i64 0, .int .i64 0] 42 ?_
         intro gb331 hg w21 hbox hb
         have BK331 := Aside0.mk (hbox)
         have GE331 := gw hg (hzs HB)
         have GW331 := GE331
         have NB324_331 := nl hg (bk BK324)
         have NB331_324 := ng hg (bk BK324)
         have NB325_331 := nl hg (bk BK325)
         have NB331_325 := ng hg (bk BK325)
         have NB326_331 := nl hg (bk BK326)
         have NB331_326 := ng hg (bk BK326)
         have NB332_331 := nl hg (bk BK332)
         have NB331_332 := ng hg (bk BK332)
         replace BK324 := bb (bk BK324) hb
         replace BK325 := bb (bk BK325) hb
         replace BK326 := bb (bk BK326) hb
         replace BK332 := bb (bk BK332) hb
         replace HB := hbb (hzs HB) hb
         clear hb hbox hg
         refine hK.out _ _ ⟨cw0 BK325, cw1 BK325, cw0 BK324, cw1 BK324⟩ (fun hHeld => ?_)
         clear hK K
         refine nP ?_
         exact nm (hJ5_12_13 (gb331, gb332) _ ⟨hHeld, (bk BK324), (bk BK325), (bk BK326), (bk BK331), (bk BK332), GW331.out, GE331.out, NB324_331.out, NB331_324.out, NB325_331.out, NB331_325.out, NB326_331.out, NB331_326.out, NB332_331.out, NB331_332.out, GW332.out, GE332.out, NB324_332.out, NB332_324.out, NB325_332.out, NB332_325.out, NB326_332.out, NB332_326.out, (hzs HB)⟩)
      ·skip
       rintro gb331 w20 ⟨hS_, h0_, h1_, h2_, h3_, h4_, h5_, h6_, h7_, h8_, h9_, h10_, h11_, h12_⟩
       replace BK324 := Aside0.mk h0_
       replace BK325 := Aside0.mk h1_
       replace BK326 := Aside0.mk h2_
       have BK331 := Aside0.mk h3_
       have GW331 := Aside0.mk h4_
       have GE331 := Aside0.mk h5_
       have NB324_331 := Aside0.mk h6_
       have NB331_324 := Aside0.mk h7_
       have NB325_331 := Aside0.mk h8_
       have NB331_325 := Aside0.mk h9_
       have NB326_331 := Aside0.mk h10_
       have NB331_326 := Aside0.mk h11_
       replace HB := Aside0.mk h12_
       clear h0_ h1_ h2_ h3_ h4_ h5_ h6_ h7_ h8_ h9_ h10_ h11_ h12_
       have hHeld : w20.cell? ⟨gb325, 0, none⟩ = some (.int .i64 a1_0) ∧ w20.cell? ⟨gb325, 1, none⟩ = some (.int .i64 a1_1) ∧ w20.cell? ⟨gb324, 0, none⟩ = some (.int .i64 a0_0) ∧ w20.cell? ⟨gb324, 1, none⟩ = some (.int .i64 a0_1) := hS_
       refine norm_ (a' := ?_) ?_ ?_
       rotate_left
       ·simp only [putAll, Act.put, List.setIfInBounds_toArray, List.set_cons_zero, List.set_cons_succ]
        rfl
       refine tW 11 13 25 6 #[true, true, true, true, true, true, true, true, true, true, true, true, true, false, false, false] #[true, true, true, true, true, true, true, true, true, true, true, false, true, true, false, false] HT_ (fun K hK => ?_) (fun K hK => ?_)
       ·skip
        refine gS Try.func76 #[.int .i64 (wrap64 (a1_1 - a0_1))] ?_
        with_reducible refine (impl_sine.calls k (wrap64 (a1_1 - a0_1)) t329 t330 _ A4.out).mono ?_
        rintro e w21 ⟨rfl, hb⟩
        refine ⟨_, rfl, ?_⟩
        replace BK324 := bb (bk BK324) hb
        replace BK325 := bb (bk BK325) hb
        replace BK326 := bb (bk BK326) hb
        replace BK331 := bb (bk BK331) hb
        replace HB := hbb (hzs HB) hb
        clear hb
        refine hK.out _ _ ⟨cw0 BK325, cw1 BK325, cw0 BK324, cw1 BK324⟩ (fun hHeld => ?_)
        clear hK K
        refine nP ?_
        exact nm (hJ5_11_12 (gb331) _ ⟨hHeld, (bk BK324), (bk BK325), (bk BK326), (bk BK331), GW331.out, GE331.out, NB324_331.out, NB331_324.out, NB325_331.out, NB331_325.out, NB326_331.out, NB331_326.out, (hzs HB)⟩)
       ·skip
        refine bS 6 #[.int .i64 0, .int .i64 0] 42 ?_
        intro gb332 hg w21 hbox hb
        have BK332 := Aside0.mk (hbox)
        have GE332 := gw hg (hzs HB)
        have GW332 := GE332
        have NB324_332 := nl hg (bk BK324)
        have NB332_324 := ng hg (bk BK324)
        have NB325_332 := nl hg (bk BK325)
        have NB332_325 := ng hg (bk BK325)
        have NB326_332 := nl hg (bk BK326)
        have NB332_326 := ng hg (bk BK326)
        have NB331_332 := nl hg (bk BK331)
        have NB332_331 := ng hg (bk BK331)
        replace BK324 := bb (bk BK324) hb
        replace BK325 := bb (bk BK325) hb
        replace BK326 := bb (bk BK326) hb
        replace BK331 := bb (bk BK331) hb
        replace HB := hbb (hzs HB) hb
        clear hb hbox hg
        refine hK.out _ _ ⟨cw0 BK325, cw1 BK325, cw0 BK324, cw1 BK324⟩ (fun hHeld => ?_)
        clear hK K
        refine nP ?_
        exact nm (hJ5_12_13 (gb331, gb332) _ ⟨hHeld, (bk BK324), (bk BK325), (bk BK326), (bk BK331), (bk BK332), GW331.out, GE331.out, NB324_331.out, NB331_324.out, NB325_331.out, NB331_325.out, NB326_331.out, NB331_326.out, NB332_331.out, NB331_332.out, GW332.out, GE332.out, NB324_332.out, NB332_324.out, NB325_332.out, NB332_325.out, NB326_332.out, NB332_326.out, (hzs HB)⟩)
     ·skip
      rintro _ w20 ⟨hS_, h0_, h1_, h2_, h3_⟩
      replace BK324 := Aside0.mk h0_
      replace BK325 := Aside0.mk h1_
      replace BK326 := Aside0.mk h2_
      replace HB := Aside0.mk h3_
      clear h0_ h1_ h2_ h3_
      have hHeld : w20.cell? ⟨gb325, 0, none⟩ = some (.int .i64 a1_0) ∧ w20.cell? ⟨gb325, 1, none⟩ = some (.int .i64 a1_1) ∧ w20.cell? ⟨gb324, 0, none⟩ = some (.int .i64 a0_0) ∧ w20.cell? ⟨gb324, 1, none⟩ = some (.int .i64 a0_1) := hS_
      refine norm_ (a' := ?_) ?_ ?_
      rotate_left
      ·simp only [putAll, Act.put, List.setIfInBounds_toArray, List.set_cons_zero, List.set_cons_succ]
       rfl
      refine tW 12 13 5 6 #[true, true, true, true, true, true, true, true, true, true, true, true, true, false, false, false] #[true, true, true, true, true, true, true, true, true, true, true, true, false, true, false, false] HT_ (fun K hK => ?_) (fun K hK => ?_)
      ·skip
       refine bS 5 #[.int .i64 0, .int .i64 0] 42 ?_
       intro gb331 hg w21 hbox hb
       have BK331 := Aside0.mk (hbox)
       have GE331 := gw hg (hzs HB)
       have GW331 := GE331
       have NB324_331 := nl hg (bk BK324)
       have NB331_324 := ng hg (bk BK324)
       have NB325_331 := nl hg (bk BK325)
       have NB331_325 := ng hg (bk BK325)
       have NB326_331 := nl hg (bk BK326)
       have NB331_326 := ng hg (bk BK326)
       replace BK324 := bb (bk BK324) hb
       replace BK325 := bb (bk BK325) hb
       replace BK326 := bb (bk BK326) hb
       replace HB := hbb (hzs HB) hb
       clear hb hbox hg
       refine hK.out _ _ ⟨cw0 BK325, cw1 BK325, cw0 BK324, cw1 BK324⟩ (fun hHeld => ?_)
       clear hK K
       refine nP ?_
       exact nm (hJ5_11_12 (gb331) _ ⟨hHeld, (bk BK324), (bk BK325), (bk BK326), (bk BK331), GW331.out, GE331.out, NB324_331.out, NB331_324.out, NB325_331.out, NB331_325.out, NB326_331.out, NB331_326.out, (hzs HB)⟩)
      ·skip
       refine bS 6 #[.int .i64 0, .int .i64 0] 42 ?_
       intro gb332 hg w21 hbox hb
       have BK332 := Aside0.mk (hbox)
       have GE332 := gw hg (hzs HB)
       have GW332 := GE332
       have NB324_332 := nl hg (bk BK324)
       have NB332_324 := ng hg (bk BK324)
       have NB325_332 := nl hg (bk BK325)
       have NB332_325 := ng hg (bk BK325)
       have NB326_332 := nl hg (bk BK326)
       have NB332_326 := ng hg (bk BK326)
       replace BK324 := bb (bk BK324) hb
       replace BK325 := bb (bk BK325) hb
       replace BK326 := bb (bk BK326) hb
       replace HB := hbb (hzs HB) hb
       clear hb hbox hg
       refine hK.out _ _ ⟨cw0 BK325, cw1 BK325, cw0 BK324, cw1 BK324⟩ (fun hHeld => ?_)
       clear hK K
       refine nP ?_
       exact nm (hJ5_11_13 (gb332) _ ⟨hHeld, (bk BK324), (bk BK325), (bk BK326), (bk BK332), GW332.out, GE332.out, NB324_332.out, NB332_324.out, NB325_332.out, NB332_325.out, NB326_332.out, NB332_326.out, (hzs HB)⟩)
    ·skip
     rintro ⟨gb331, gb332⟩ w21 ⟨hS_, h0_, h1_, h2_, h3_, h4_, h5_, h6_, h7_, h8_, h9_, h10_, h11_, h12_, h13_, h14_, h15_, h16_, h17_, h18_, h19_, h20_, h21_, h22_, h23_⟩
     replace BK324 := Aside0.mk h0_
     replace BK325 := Aside0.mk h1_
     replace BK326 := Aside0.mk h2_
     have BK331 := Aside0.mk h3_
     have BK332 := Aside0.mk h4_
     have GW331 := Aside0.mk h5_
     have GE331 := Aside0.mk h6_
     have NB324_331 := Aside0.mk h7_
     have NB331_324 := Aside0.mk h8_
     have NB325_331 := Aside0.mk h9_
     have NB331_325 := Aside0.mk h10_
     have NB326_331 := Aside0.mk h11_
     have NB331_326 := Aside0.mk h12_
     have NB332_331 := Aside0.mk h13_
     have NB331_332 := Aside0.mk h14_
     have GW332 := Aside0.mk h15_
     have GE332 := Aside0.mk h16_
     have NB324_332 := Aside0.mk h17_
     have NB332_324 := Aside0.mk h18_
     have NB325_332 := Aside0.mk h19_
     have NB332_325 := Aside0.mk h20_
     have NB326_332 := Aside0.mk h21_
     have NB332_326 := Aside0.mk h22_
     replace HB := Aside0.mk h23_
     clear h0_ h1_ h2_ h3_ h4_ h5_ h6_ h7_ h8_ h9_ h10_ h11_ h12_ h13_ h14_ h15_ h16_ h17_ h18_ h19_ h20_ h21_ h22_ h23_
     have hHeld : w21.cell? ⟨gb325, 0, none⟩ = some (.int .i64 a1_0) ∧ w21.cell? ⟨gb325, 1, none⟩ = some (.int .i64 a1_1) ∧ w21.cell? ⟨gb324, 0, none⟩ = some (.int .i64 a0_0) ∧ w21.cell? ⟨gb324, 1, none⟩ = some (.int .i64 a0_1) := hS_
     refine norm_ (a' := ?_) ?_ ?_
     rotate_left
     ·simp only [putAll, Act.put, List.setIfInBounds_toArray, List.set_cons_zero, List.set_cons_succ]
      rfl
     refine oN 11 25 #[true, true, true, true, true, true, true, true, true, true, true, true, true, true, false, false] HT_ (fun K hK => ?_)
     refine gS Try.func76 #[.int .i64 (wrap64 (a1_1 - a0_1))] ?_
     with_reducible refine (impl_sine.calls k (wrap64 (a1_1 - a0_1)) t329 t330 _ A4.out).mono ?_
     rintro e w22 ⟨rfl, hb⟩
     refine ⟨_, rfl, ?_⟩
     replace BK324 := bb (bk BK324) hb
     replace BK325 := bb (bk BK325) hb
     replace BK326 := bb (bk BK326) hb
     replace BK331 := bb (bk BK331) hb
     replace BK332 := bb (bk BK332) hb
     replace HB := hbb (hzs HB) hb
     clear hb
     refine hK.out _ _ ⟨cw0 BK325, cw1 BK325, cw0 BK324, cw1 BK324⟩ (fun hHeld => ?_)
     clear hK K
     refine nP ?_
     exact nm (hJ5_11_12_13 (gb331, gb332) _ ⟨hHeld, (bk BK324), (bk BK325), (bk BK326), (bk BK331), (bk BK332), GW331.out, GE331.out, NB324_331.out, NB331_324.out, NB325_331.out, NB331_325.out, NB326_331.out, NB331_326.out, NB332_331.out, NB331_332.out, GW332.out, GE332.out, NB324_332.out, NB332_324.out, NB325_332.out, NB332_325.out, NB326_332.out, NB332_326.out, (hzs HB)⟩)
   ·skip
    rintro gb332 w21 ⟨hS_, h0_, h1_, h2_, h3_, h4_, h5_, h6_, h7_, h8_, h9_, h10_, h11_, h12_⟩
    replace BK324 := Aside0.mk h0_
    replace BK325 := Aside0.mk h1_
    replace BK326 := Aside0.mk h2_
    have BK332 := Aside0.mk h3_
    have GW332 := Aside0.mk h4_
    have GE332 := Aside0.mk h5_
    have NB324_332 := Aside0.mk h6_
    have NB332_324 := Aside0.mk h7_
    have NB325_332 := Aside0.mk h8_
    have NB332_325 := Aside0.mk h9_
    have NB326_332 := Aside0.mk h10_
    have NB332_326 := Aside0.mk h11_
    replace HB := Aside0.mk h12_
    clear h0_ h1_ h2_ h3_ h4_ h5_ h6_ h7_ h8_ h9_ h10_ h11_ h12_
    have hHeld : w21.cell? ⟨gb325, 0, none⟩ = some (.int .i64 a1_0) ∧ w21.cell? ⟨gb325, 1, none⟩ = some (.int .i64 a1_1) ∧ w21.cell? ⟨gb324, 0, none⟩ = some (.int .i64 a0_0) ∧ w21.cell? ⟨gb324, 1, none⟩ = some (.int .i64 a0_1) := hS_
    refine norm_ (a' := ?_) ?_ ?_
    rotate_left
    ·simp only [putAll, Act.put, List.setIfInBounds_toArray, List.set_cons_zero, List.set_cons_succ]
     rfl
    refine oN 12 5 #[true, true, true, true, true, true, true, true, true, true, true, true, true, true, false, false] HT_ (fun K hK => ?_)
    refine bS 5 #[.int .i64 0, .int .i64 0] 42 ?_
    intro gb331 hg w22 hbox hb
    have BK331 := Aside0.mk (hbox)
    have GE331 := gw hg (hzs HB)
    have GW331 := GE331
    have NB324_331 := nl hg (bk BK324)
    have NB331_324 := ng hg (bk BK324)
    have NB325_331 := nl hg (bk BK325)
    have NB331_325 := ng hg (bk BK325)
    have NB326_331 := nl hg (bk BK326)
    have NB331_326 := ng hg (bk BK326)
    have NB332_331 := nl hg (bk BK332)
    have NB331_332 := ng hg (bk BK332)
    replace BK324 := bb (bk BK324) hb
    replace BK325 := bb (bk BK325) hb
    replace BK326 := bb (bk BK326) hb
    replace BK332 := bb (bk BK332) hb
    replace HB := hbb (hzs HB) hb
    clear hb hbox hg
    refine hK.out _ _ ⟨cw0 BK325, cw1 BK325, cw0 BK324, cw1 BK324⟩ (fun hHeld => ?_)
    clear hK K
    refine nP ?_
    exact nm (hJ5_11_12_13 (gb331, gb332) _ ⟨hHeld, (bk BK324), (bk BK325), (bk BK326), (bk BK331), (bk BK332), GW331.out, GE331.out, NB324_331.out, NB331_324.out, NB325_331.out, NB331_325.out, NB326_331.out, NB331_326.out, NB332_331.out, NB331_332.out, GW332.out, GE332.out, NB324_332.out, NB332_324.out, NB325_332.out, NB332_325.out, NB326_332.out, NB332_326.out, (hzs HB)⟩)
  ·skip
   rintro gb331 w21 ⟨hS_, h0_, h1_, h2_, h3_, h4_, h5_, h6_, h7_, h8_, h9_, h10_, h11_, h12_⟩
   replace BK324 := Aside0.mk h0_
   replace BK325 := Aside0.mk h1_
   replace BK326 := Aside0.mk h2_
   have BK331 := Aside0.mk h3_
   have GW331 := Aside0.mk h4_
   have GE331 := Aside0.mk h5_
   have NB324_331 := Aside0.mk h6_
   have NB331_324 := Aside0.mk h7_
   have NB325_331 := Aside0.mk h8_
   have NB331_325 := Aside0.mk h9_
   have NB326_331 := Aside0.mk h10_
   have NB331_326 := Aside0.mk h11_
   replace HB := Aside0.mk h12_
   clear h0_ h1_ h2_ h3_ h4_ h5_ h6_ h7_ h8_ h9_ h10_ h11_ h12_
   have hHeld : w21.cell? ⟨gb325, 0, none⟩ = some (.int .i64 a1_0) ∧ w21.cell? ⟨gb325, 1, none⟩ = some (.int .i64 a1_1) ∧ w21.cell? ⟨gb324, 0, none⟩ = some (.int .i64 a0_0) ∧ w21.cell? ⟨gb324, 1, none⟩ = some (.int .i64 a0_1) := hS_
   refine norm_ (a' := ?_) ?_ ?_
   rotate_left
   ·simp only [putAll, Act.put, List.setIfInBounds_toArray, List.set_cons_zero, List.set_cons_succ]
    rfl
   refine oN 13 6 #[true, true, true, true, true, true, true, true, true, true, true, true, true, true, false, false] HT_ (fun K hK => ?_)
   refine bS 6 #[.int .i64 0, .int .i64 0] 42 ?_
   intro gb332 hg w22 hbox hb
   have BK332 := Aside0.mk (hbox)
   have GE332 := gw hg (hzs HB)
   have GW332 := GE332
   have NB324_332 := nl hg (bk BK324)
   have NB332_324 := ng hg (bk BK324)
   have NB325_332 := nl hg (bk BK325)
   have NB332_325 := ng hg (bk BK325)
   have NB326_332 := nl hg (bk BK326)
   have NB332_326 := ng hg (bk BK326)
   have NB331_332 := nl hg (bk BK331)
   have NB332_331 := ng hg (bk BK331)
   replace BK324 := bb (bk BK324) hb
   replace BK325 := bb (bk BK325) hb
   replace BK326 := bb (bk BK326) hb
   replace BK331 := bb (bk BK331) hb
   replace HB := hbb (hzs HB) hb
   clear hb hbox hg
   refine hK.out _ _ ⟨cw0 BK325, cw1 BK325, cw0 BK324, cw1 BK324⟩ (fun hHeld => ?_)
   clear hK K
   refine nP ?_
   exact nm (hJ5_11_12_13 (gb331, gb332) _ ⟨hHeld, (bk BK324), (bk BK325), (bk BK326), (bk BK331), (bk BK332), GW331.out, GE331.out, NB324_331.out, NB331_324.out, NB325_331.out, NB331_325.out, NB326_331.out, NB331_326.out, NB332_331.out, NB331_332.out, GW332.out, GE332.out, NB324_332.out, NB332_324.out, NB325_332.out, NB332_325.out, NB326_332.out, NB332_326.out, (hzs HB)⟩)
 rintro ⟨gb331, gb332⟩ w22 ⟨hS_, h0_, h1_, h2_, h3_, h4_, h5_, h6_, h7_, h8_, h9_, h10_, h11_, h12_, h13_, h14_, h15_, h16_, h17_, h18_, h19_, h20_, h21_, h22_, h23_⟩
 replace BK324 := Aside0.mk h0_
 replace BK325 := Aside0.mk h1_
 replace BK326 := Aside0.mk h2_
 have BK331 := Aside0.mk h3_
 have BK332 := Aside0.mk h4_
 have GW331 := Aside0.mk h5_
 have GE331 := Aside0.mk h6_
 have NB324_331 := Aside0.mk h7_
 have NB331_324 := Aside0.mk h8_
 have NB325_331 := Aside0.mk h9_
 have NB331_325 := Aside0.mk h10_
 have NB326_331 := Aside0.mk h11_
 have NB331_326 := Aside0.mk h12_
 have NB332_331 := Aside0.mk h13_
 have NB331_332 := Aside0.mk h14_
 have GW332 := Aside0.mk h15_
 have GE332 := Aside0.mk h16_
 have NB324_332 := Aside0.mk h17_
 have NB332_324 := Aside0.mk h18_
 have NB325_332 := Aside0.mk h19_
 have NB332_325 := Aside0.mk h20_
 have NB326_332 := Aside0.mk h21_
 have NB332_326 := Aside0.mk h22_
 replace HB := Aside0.mk h23_
 clear h0_ h1_ h2_ h3_ h4_ h5_ h6_ h7_ h8_ h9_ h10_ h11_ h12_ h13_ h14_ h15_ h16_ h17_ h18_ h19_ h20_ h21_ h22_ h23_
 have hHeld : w22.cell? ⟨gb325, 0, none⟩ = some (.int .i64 a1_0) ∧ w22.cell? ⟨gb325, 1, none⟩ = some (.int .i64 a1_1) ∧ w22.cell? ⟨gb324, 0, none⟩ = some (.int .i64 a0_0) ∧ w22.cell? ⟨gb324, 1, none⟩ = some (.int .i64 a0_1) := hS_
 refine norm_ (a' := ?_) ?_ ?_
 rotate_left
 ·simp only [putAll, Act.put, List.setIfInBounds_toArray, List.set_cons_zero, List.set_cons_succ]
  rfl
 refine one_ (i := 14) (N := none) #[true, true, true, true, true, true, true, true, true, true, true, true, true, true, true, false] rfl rfl (one_of HT_.out (by kernel_rfl)) (by decide) (fun K hK => ?_)
 have hs23 : w22.cell? ⟨gb331, 0, none⟩ = some (.int .i64 0) := (blk_cell BK331.out 0).trans rfl
 have hfs23 := blk_frozen BK331.out 0
 have hns23_0 := NB324_331.out
 have hns23_1 := NB325_331.out
 have hns23_2 := NB326_331.out
 have hns23_4 := NB332_331.out
 have hms23_0 := NB331_324.out
 have hms23_1 := NB331_325.out
 have hms23_2 := NB331_326.out
 have hms23_4 := NB331_332.out
 have hs24 : w22.cell? ⟨gb331, 1, none⟩ = some (.int .i64 0) := (blk_cell BK331.out 1).trans rfl
 have hfs24 := blk_frozen BK331.out 1
 have hns24_0 := NB324_331.out
 have hns24_1 := NB325_331.out
 have hns24_2 := NB326_331.out
 have hns24_4 := NB332_331.out
 have hms24_0 := NB331_324.out
 have hms24_1 := NB331_325.out
 have hms24_2 := NB331_326.out
 have hms24_4 := NB331_332.out
 refine skip_ (w1 := ?_) (by rfl) rfl ?_ ?_
 rotate_left
 ·go_simp
  rfl
 refine hK.out _ _ ⟨((cell_far (p := ⟨gb331, _, none⟩) NB325_331.out _).trans (((cell_far (p := ⟨gb331, _, none⟩) NB325_331.out _).trans (hHeld.1)))), ((cell_far (p := ⟨gb331, _, none⟩) NB325_331.out _).trans (((cell_far (p := ⟨gb331, _, none⟩) NB325_331.out _).trans (hHeld.2.1)))), ((cell_far (p := ⟨gb331, _, none⟩) NB324_331.out _).trans (((cell_far (p := ⟨gb331, _, none⟩) NB324_331.out _).trans (hHeld.2.2.1)))), ((cell_far (p := ⟨gb331, _, none⟩) NB324_331.out _).trans (((cell_far (p := ⟨gb331, _, none⟩) NB324_331.out _).trans (hHeld.2.2.2))))⟩ (fun hHeld => ?_)
 clear hK K
 refine one_ (i := 15) (N := none) #[true, true, true, true, true, true, true, true, true, true, true, true, true, true, true, true] rfl rfl (one_of HT_.out (by kernel_rfl)) (by decide) (fun K hK => ?_)
 have hs25 : w22.cell? ⟨gb332, 0, none⟩ = some (.int .i64 0) := (blk_cell BK332.out 0).trans rfl
 have hfs25 := blk_frozen BK332.out 0
 have hns25_0 := NB324_332.out
 have hns25_1 := NB325_332.out
 have hns25_2 := NB326_332.out
 have hns25_3 := NB331_332.out
 have hms25_0 := NB332_324.out
 have hms25_1 := NB332_325.out
 have hms25_2 := NB332_326.out
 have hms25_3 := NB332_331.out
 have hs26 : w22.cell? ⟨gb332, 1, none⟩ = some (.int .i64 0) := (blk_cell BK332.out 1).trans rfl
 have hfs26 := blk_frozen BK332.out 1
 have hns26_0 := NB324_332.out
 have hns26_1 := NB325_332.out
 have hns26_2 := NB326_332.out
 have hns26_3 := NB331_332.out
 have hms26_0 := NB332_324.out
 have hms26_1 := NB332_325.out
 have hms26_2 := NB332_326.out
 have hms26_3 := NB332_331.out
 refine skip_ (w1 := ?_) (by rfl) rfl ?_ ?_
 rotate_left
 ·go_simp
  rfl
 refine hK.out _ _ ⟨((cell_far (p := ⟨gb332, _, none⟩) NB325_332.out _).trans (((cell_far (p := ⟨gb332, _, none⟩) NB325_332.out _).trans (hHeld.1)))), ((cell_far (p := ⟨gb332, _, none⟩) NB325_332.out _).trans (((cell_far (p := ⟨gb332, _, none⟩) NB325_332.out _).trans (hHeld.2.1)))), ((cell_far (p := ⟨gb332, _, none⟩) NB324_332.out _).trans (((cell_far (p := ⟨gb332, _, none⟩) NB324_332.out _).trans (hHeld.2.2.1)))), ((cell_far (p := ⟨gb332, _, none⟩) NB324_332.out _).trans (((cell_far (p := ⟨gb332, _, none⟩) NB324_332.out _).trans (hHeld.2.2.2))))⟩ (fun hHeld => ?_)
 clear hK K
 refine done_ (done_of HT_.out (by kernel_rfl)) ?_
 have hnb27 := NB331_324.out
 have hnc27 := NB324_331.out
 have hnb28 := NB331_325.out
 have hnc28 := NB325_331.out
 have hnb29 := NB331_326.out
 have hnc29 := NB326_331.out
 have hnb30 := NB331_332.out
 have hnc30 := NB332_331.out
 obtain ⟨hcz31_0, hcz31_1, hfz31_0, hfz31_1⟩ := cz2 BK331
 try go_wp2_with (first | ((with_reducible refine gate_callee (f := 77) rfl ?_); refine gL 29 Try.func77 #[.agg #[.int .i64 t327, .int .i64 t328], .agg #[.int .i64 t327, .int .i64 t328]] ?_; (with_reducible refine (impl_SpanMul.calls k t327 t328 t327 t328 t333 t334 t335 _ A5.out).mono ?_); rintro e w32 ⟨rfl, hb⟩; refine ⟨_, rfl, ?_⟩; replace BK324 := bb (bk2 BK324 NB324_332 NB324_331) hb; replace BK325 := bb (bk2 BK325 NB325_332 NB325_331) hb; replace BK326 := bb (bk2 BK326 NB326_332 NB326_331) hb; replace BK331 := bb (o := .cells #[.int .i64 t327, .int .i64 t328] 42 (0, 0)) (bkp BK331) hb; replace BK332 := bb (o := .cells #[.int .i64 t329, .int .i64 t330] 42 (0, 0)) (bkp BK332) hb; replace HB := hbb (hzs HB) hb; clear hb) | ((with_reducible refine gate_dst (N := 7) rfl ?_); refine bE 7 #[.int .i64 0, .int .i64 0] 42 ?_; intro gb336 hg w33 hbox hb; have BK336 := Aside0.mk (hbox); have GE336 := gw hg (hzs HB); have NB324_336 := nl hg (bk BK324); have NB336_324 := ng hg (bk BK324); have NB325_336 := nl hg (bk BK325); have NB336_325 := ng hg (bk BK325); have NB326_336 := nl hg (bk BK326); have NB336_326 := ng hg (bk BK326); have NB331_336 := nl hg (bk BK331); have NB336_331 := ng hg (bk BK331); have NB332_336 := nl hg (bk BK332); have NB336_332 := ng hg (bk BK332); replace BK324 := bb (bk BK324) hb; replace BK325 := bb (bk BK325) hb; replace BK326 := bb (bk BK326) hb; replace BK331 := bb (bk BK331) hb; replace BK332 := bb (bk BK332) hb; replace HB := hbb (hzs HB) hb; clear hb hbox hg; have hnb34 := NB336_324.out; have hnc34 := NB324_336.out; have hnb35 := NB336_325.out; have hnc35 := NB325_336.out; have hnb36 := NB336_326.out; have hnc36 := NB326_336.out; have hnb37 := NB336_331.out; have hnc37 := NB331_336.out; have hnb38 := NB336_332.out; have hnc38 := NB332_336.out; obtain ⟨hcz39_0, hcz39_1, hfz39_0, hfz39_1⟩ := cz2 BK336; have hnb40 := NB332_324.out; have hnc40 := NB324_332.out; have hnb41 := NB332_325.out; have hnc41 := NB325_332.out; have hnb42 := NB332_326.out; have hnc42 := NB326_332.out; obtain ⟨hcz43_0, hcz43_1, hfz43_0, hfz43_1⟩ := cz2 BK332) | ((with_reducible refine gate_callee (f := 77) rfl ?_); refine gL 35 Try.func77 #[.agg #[.int .i64 t329, .int .i64 t330], .agg #[.int .i64 t329, .int .i64 t330]] ?_; (with_reducible refine (impl_SpanMul.calls k t329 t330 t329 t330 t337 t338 t339 _ A6.out).mono ?_); rintro e w44 ⟨rfl, hb⟩; refine ⟨_, rfl, ?_⟩; replace BK324 := bb (bk1 BK324 NB324_336) hb; replace BK325 := bb (bk1 BK325 NB325_336) hb; replace BK326 := bb (bk1 BK326 NB326_336) hb; replace BK331 := bb (bk1 BK331 NB331_336) hb; replace BK332 := bb (bk1 BK332 NB332_336) hb; replace BK336 := bb (o := .cells #[.int .i64 t333, .int .i64 t334] 42 (0, 0)) (bkp BK336) hb; replace HB := hbb (hzs HB) hb; clear hb) | ((with_reducible refine gate_dst (N := 9) rfl ?_); refine bE 9 #[.int .i64 0, .int .i64 0] 42 ?_; intro gb340 hg w45 hbox hb; have BK340 := Aside0.mk (hbox); have GE340 := gw hg (hzs HB); have NB324_340 := nl hg (bk BK324); have NB340_324 := ng hg (bk BK324); have NB325_340 := nl hg (bk BK325); have NB340_325 := ng hg (bk BK325); have NB326_340 := nl hg (bk BK326); have NB340_326 := ng hg (bk BK326); have NB331_340 := nl hg (bk BK331); have NB340_331 := ng hg (bk BK331); have NB332_340 := nl hg (bk BK332); have NB340_332 := ng hg (bk BK332); have NB336_340 := nl hg (bk BK336); have NB340_336 := ng hg (bk BK336); replace BK324 := bb (bk BK324) hb; replace BK325 := bb (bk BK325) hb; replace BK326 := bb (bk BK326) hb; replace BK331 := bb (bk BK331) hb; replace BK332 := bb (bk BK332) hb; replace BK336 := bb (bk BK336) hb; replace HB := hbb (hzs HB) hb; clear hb hbox hg; have hnb46 := NB340_324.out; have hnc46 := NB324_340.out; have hnb47 := NB340_325.out; have hnc47 := NB325_340.out; have hnb48 := NB340_326.out; have hnc48 := NB326_340.out; have hnb49 := NB340_331.out; have hnc49 := NB331_340.out; have hnb50 := NB340_332.out; have hnc50 := NB332_340.out; have hnb51 := NB340_336.out; have hnc51 := NB336_340.out; obtain ⟨hcz52_0, hcz52_1, hfz52_0, hfz52_1⟩ := cz2 BK340))
 have n0_ : Aside0 (((w45.setCell ⟨gb340, 0, none⟩ (.int .i64 t337)).setCell ⟨gb340, 1, none⟩ (.int .i64 t338)).heap[gb324]? = some (.cells #[.int .i64 a0_0, .int .i64 a0_1] 24 (0, 0))) := ⟨bk1 BK324 NB324_340⟩
 have n1_ : Aside0 (((w45.setCell ⟨gb340, 0, none⟩ (.int .i64 t337)).setCell ⟨gb340, 1, none⟩ (.int .i64 t338)).heap[gb325]? = some (.cells #[.int .i64 a1_0, .int .i64 a1_1] 24 (0, 0))) := ⟨bk1 BK325 NB325_340⟩
 have n2_ : Aside0 (((w45.setCell ⟨gb340, 0, none⟩ (.int .i64 t337)).setCell ⟨gb340, 1, none⟩ (.int .i64 t338)).heap[gb326]? = some (.cells #[.int .i64 0, .int .i64 0] 42 (0, 0))) := ⟨bk1 BK326 NB326_340⟩
 have n3_ : Aside0 (((w45.setCell ⟨gb340, 0, none⟩ (.int .i64 t337)).setCell ⟨gb340, 1, none⟩ (.int .i64 t338)).heap[gb331]? = some (.cells #[.int .i64 t327, .int .i64 t328] 42 (0, 0))) := ⟨bk1 BK331 NB331_340⟩
 have n4_ : Aside0 (((w45.setCell ⟨gb340, 0, none⟩ (.int .i64 t337)).setCell ⟨gb340, 1, none⟩ (.int .i64 t338)).heap[gb332]? = some (.cells #[.int .i64 t329, .int .i64 t330] 42 (0, 0))) := ⟨bk1 BK332 NB332_340⟩
 have n5_ : Aside0 (((w45.setCell ⟨gb340, 0, none⟩ (.int .i64 t337)).setCell ⟨gb340, 1, none⟩ (.int .i64 t338)).heap[gb336]? = some (.cells #[.int .i64 t333, .int .i64 t334] 42 (0, 0))) := ⟨bk1 BK336 NB336_340⟩
 have n6_ : Aside0 (((w45.setCell ⟨gb340, 0, none⟩ (.int .i64 t337)).setCell ⟨gb340, 1, none⟩ (.int .i64 t338)).heap[gb340]? = some (.cells #[.int .i64 t337, .int .i64 t338] 42 (0, 0))) := ⟨bkp BK340⟩
 have n7_ : Aside0 (Below w.heap.size w ((w45.setCell ⟨gb340, 0, none⟩ (.int .i64 t337)).setCell ⟨gb340, 1, none⟩ (.int .i64 t338))) := ⟨hzs HB⟩
 (try clear BK324)
 (try clear BK325)
 (try clear BK326)
 (try clear BK331)
 (try clear BK332)
 (try clear BK336)
 (try clear BK340)
 (try clear HB)
 generalize ((w45.setCell ⟨gb340, 0, none⟩ (.int .i64 t337)).setCell ⟨gb340, 1, none⟩ (.int .i64 t338)) = w53 at n0_ n1_ n2_ n3_ n4_ n5_ n6_ n7_ ⊢
 have BK324 := n0_
 have BK325 := n1_
 have BK326 := n2_
 have BK331 := n3_
 have BK332 := n4_
 have BK336 := n5_
 have BK340 := n6_
 have HB := n7_
 clear n0_ n1_ n2_ n3_ n4_ n5_ n6_ n7_
 replace BK324 := Aside0.mk (blk_drew BK324.out)
 replace BK325 := Aside0.mk (blk_drew BK325.out)
 replace BK326 := Aside0.mk (blk_drew BK326.out)
 replace BK331 := Aside0.mk (blk_drew BK331.out)
 replace BK332 := Aside0.mk (blk_drew BK332.out)
 replace BK336 := Aside0.mk (blk_drew BK336.out)
 replace BK340 := Aside0.mk (blk_drew BK340.out)
 replace HB := Aside0.mk (below_drew1 HB.out)
 refine start_ (n := 9) (S := fun w' => w'.cell? ⟨gb324, 0, none⟩ = some (.int .i64 a0_0) ∧ w'.cell? ⟨gb324, 1, none⟩ = some (.int .i64 a0_1) ∧ w'.cell? ⟨gb325, 0, none⟩ = some (.int .i64 a1_0) ∧ w'.cell? ⟨gb325, 1, none⟩ = some (.int .i64 a1_1)) (ds := []) #[false, false, false, false, false, false, false, false, false] (by kernel_rfl) rfl rfl ⟨cw0 BK324, cw1 BK324, cw0 BK325, cw1 BK325⟩ (fun hHeld => ?_); refine with_tabW impl_square.tab4 impl_square.bits4 (fun HT_ HW_ => ?_)
 generalize w53.drew = w54 at BK324 BK325 BK326 BK331 BK332 BK336 BK340 HB hHeld ⊢
 refine pU 0 38 #[true, false, false, false, false, false, false, false, false] HT_ ?_
 refine pU 3 41 #[true, false, false, true, false, false, false, false, false] HT_ ?_
 refine take_ (i := 1) (N := some 39) (v := ?_) (a' := ?_) #[true, true, false, true, false, false, false, false, false] rfl rfl (take_ofW HT_.out HW_.out (by kernel_rfl)) (fun _ _ _ h => h) (Or.inl ⟨by rfl, ?_⟩) hHeld ?_ ?_
 rotate_left
 ·rintro w' ⟨s0, s1, s2, s3⟩
  go_simp
  with_reducible rfl
 rotate_left
 ·simp only [Act.put, List.setIfInBounds_toArray, List.set_cons_zero, List.set_cons_succ, i64_w, i32_w]
  rfl
 refine take_ (i := 4) (N := some 42) (v := ?_) (a' := ?_) #[true, true, false, true, true, false, false, false, false] rfl rfl (take_ofW HT_.out HW_.out (by kernel_rfl)) (fun _ _ _ h => h) (Or.inl ⟨by rfl, ?_⟩) hHeld ?_ ?_
 rotate_left
 ·rintro w' ⟨s0, s1, s2, s3⟩
  go_simp
  with_reducible rfl
 rotate_left
 ·simp only [Act.put, List.setIfInBounds_toArray, List.set_cons_zero, List.set_cons_succ, i64_w, i32_w]
  rfl
 refine join_ (σ := Nat) 1 #[true, true, true, true, true, true, true, true, false] (fun s_ => [(40, .agg #[.int .i64 t341, .int .i64 t342]), (43, .agg #[.int .i64 t343, .int .i64 t344]), (44, .agg #[.int .i64 t345, .int .i64 t346]), (11, .pointer (some ⟨s_, 0, none⟩))]) (fun s_ w' => (w'.cell? ⟨gb324, 0, none⟩ = some (.int .i64 a0_0) ∧ w'.cell? ⟨gb324, 1, none⟩ = some (.int .i64 a0_1) ∧ w'.cell? ⟨gb325, 0, none⟩ = some (.int .i64 a1_0) ∧ w'.cell? ⟨gb325, 1, none⟩ = some (.int .i64 a1_1)) ∧ (w'.heap[gb324]? = some (.cells #[.int .i64 a0_0, .int .i64 a0_1] 24 (0, 0))) ∧ (w'.heap[gb325]? = some (.cells #[.int .i64 a1_0, .int .i64 a1_1] 24 (0, 0))) ∧ (w'.heap[gb326]? = some (.cells #[.int .i64 0, .int .i64 0] 42 (0, 0))) ∧ (w'.heap[gb331]? = some (.cells #[.int .i64 t327, .int .i64 t328] 42 (0, 0))) ∧ (w'.heap[gb332]? = some (.cells #[.int .i64 t329, .int .i64 t330] 42 (0, 0))) ∧ (w'.heap[gb336]? = some (.cells #[.int .i64 t333, .int .i64 t334] 42 (0, 0))) ∧ (w'.heap[gb340]? = some (.cells #[.int .i64 t337, .int .i64 t338] 42 (0, 0))) ∧ (w'.heap[s_]? = some (.cells #[.int .i64 0, .int .i64 0] 42 (0, 0))) ∧ (w.heap.size ≤ s_) ∧ (w.heap.size ≤ s_) ∧ (gb324 ≠ s_) ∧ (s_ ≠ gb324) ∧ (gb325 ≠ s_) ∧ (s_ ≠ gb325) ∧ (gb326 ≠ s_) ∧ (s_ ≠ gb326) ∧ (gb331 ≠ s_) ∧ (s_ ≠ gb331) ∧ (gb332 ≠ s_) ∧ (s_ ≠ gb332) ∧ (gb336 ≠ s_) ∧ (s_ ≠ gb336) ∧ (gb340 ≠ s_) ∧ (s_ ≠ gb340) ∧ (Below w.heap.size w w')) ?_ ?_
 rotate_left
 ·intro hCont
  refine tW 2 7 40 11 #[true, true, true, true, true, false, false, false, false] #[true, true, false, true, true, false, false, true, false] HT_ (fun K hK => ?_) (fun K hK => ?_)
  ·skip
   refine gS Try.func79 #[.int .i64 a0_0] ?_
   with_reducible refine (impl_cosine.calls k a0_0 t341 t342 _ A7.out).mono ?_
   rintro e w55 ⟨rfl, hb⟩
   refine ⟨_, rfl, ?_⟩
   replace BK324 := bb (bk BK324) hb
   replace BK325 := bb (bk BK325) hb
   replace BK326 := bb (bk BK326) hb
   replace BK331 := bb (bk BK331) hb
   replace BK332 := bb (bk BK332) hb
   replace BK336 := bb (bk BK336) hb
   replace BK340 := bb (bk BK340) hb
   replace HB := hbb (hzs HB) hb
   clear hb
   refine hK.out _ _ ⟨cw0 BK324, cw1 BK324, cw0 BK325, cw1 BK325⟩ (fun hHeld => ?_)
   clear hK K
   refine nP ?_
   refine tW 5 7 43 11 #[true, true, true, true, true, true, false, false, false] #[true, true, true, true, true, false, false, true, false] HT_ (fun K hK => ?_) (fun K hK => ?_)
   ·skip
    refine gS Try.func79 #[.int .i64 a1_0] ?_
    with_reducible refine (impl_cosine.calls k a1_0 t343 t344 _ A8.out).mono ?_
    rintro e w56 ⟨rfl, hb⟩
    refine ⟨_, rfl, ?_⟩
    replace BK324 := bb (bk BK324) hb
    replace BK325 := bb (bk BK325) hb
    replace BK326 := bb (bk BK326) hb
    replace BK331 := bb (bk BK331) hb
    replace BK332 := bb (bk BK332) hb
    replace BK336 := bb (bk BK336) hb
    replace BK340 := bb (bk BK340) hb
    replace HB := hbb (hzs HB) hb
    clear hb
    refine hK.out _ _ ⟨cw0 BK324, cw1 BK324, cw0 BK325, cw1 BK325⟩ (fun hHeld => ?_)
    clear hK K
    refine nP ?_
    refine tW 6 7 44 11 #[true, true, true, true, true, true, true, false, false] #[true, true, true, true, true, true, false, true, false] HT_ (fun K hK => ?_) (fun K hK => ?_)
    ·skip
     refine gS Try.func78 #[.agg #[.int .i64 t341, .int .i64 t342], .agg #[.int .i64 t343, .int .i64 t344]] ?_
     with_reducible refine (impl_times.calls k t341 t342 t343 t344 t345 t346 _ A9.out).mono ?_
     rintro e w57 ⟨rfl, hb⟩
     refine ⟨_, rfl, ?_⟩
     replace BK324 := bb (bk BK324) hb
     replace BK325 := bb (bk BK325) hb
     replace BK326 := bb (bk BK326) hb
     replace BK331 := bb (bk BK331) hb
     replace BK332 := bb (bk BK332) hb
     replace BK336 := bb (bk BK336) hb
     replace BK340 := bb (bk BK340) hb
     replace HB := hbb (hzs HB) hb
     clear hb
     refine hK.out _ _ ⟨cw0 BK324, cw1 BK324, cw0 BK325, cw1 BK325⟩ (fun hHeld => ?_)
     clear hK K
     refine nP ?_
     refine oN 7 11 #[true, true, true, true, true, true, true, true, false] HT_ (fun K hK => ?_)
     refine bS 11 #[.int .i64 0, .int .i64 0] 42 ?_
     intro gb347 hg w58 hbox hb
     have BK347 := Aside0.mk (hbox)
     have GE347 := gw hg (hzs HB)
     have GW347 := GE347
     have NB324_347 := nl hg (bk BK324)
     have NB347_324 := ng hg (bk BK324)
     have NB325_347 := nl hg (bk BK325)
     have NB347_325 := ng hg (bk BK325)
     have NB326_347 := nl hg (bk BK326)
     have NB347_326 := ng hg (bk BK326)
     have NB331_347 := nl hg (bk BK331)
     have NB347_331 := ng hg (bk BK331)
     have NB332_347 := nl hg (bk BK332)
     have NB347_332 := ng hg (bk BK332)
     have NB336_347 := nl hg (bk BK336)
     have NB347_336 := ng hg (bk BK336)
     have NB340_347 := nl hg (bk BK340)
     have NB347_340 := ng hg (bk BK340)
     replace BK324 := bb (bk BK324) hb
     replace BK325 := bb (bk BK325) hb
     replace BK326 := bb (bk BK326) hb
     replace BK331 := bb (bk BK331) hb
     replace BK332 := bb (bk BK332) hb
     replace BK336 := bb (bk BK336) hb
     replace BK340 := bb (bk BK340) hb
     replace HB := hbb (hzs HB) hb
     clear hb hbox hg
     refine hK.out _ _ ⟨cw0 BK324, cw1 BK324, cw0 BK325, cw1 BK325⟩ (fun hHeld => ?_)
     clear hK K
     refine nP ?_
     exact nm (hCont (gb347) _ ⟨hHeld, (bk BK324), (bk BK325), (bk BK326), (bk BK331), (bk BK332), (bk BK336), (bk BK340), (bk BK347), GW347.out, GE347.out, NB324_347.out, NB347_324.out, NB325_347.out, NB347_325.out, NB326_347.out, NB347_326.out, NB331_347.out, NB347_331.out, NB332_347.out, NB347_332.out, NB336_347.out, NB347_336.out, NB340_347.out, NB347_340.out, (hzs HB)⟩)
    ·skip
     refine bS 11 #[.int .i64 0, .int .i64 0] 42 ?_
     intro gb347 hg w57 hbox hb
     have BK347 := Aside0.mk (hbox)
     have GE347 := gw hg (hzs HB)
     have GW347 := GE347
     have NB324_347 := nl hg (bk BK324)
     have NB347_324 := ng hg (bk BK324)
     have NB325_347 := nl hg (bk BK325)
     have NB347_325 := ng hg (bk BK325)
     have NB326_347 := nl hg (bk BK326)
     have NB347_326 := ng hg (bk BK326)
     have NB331_347 := nl hg (bk BK331)
     have NB347_331 := ng hg (bk BK331)
     have NB332_347 := nl hg (bk BK332)
     have NB347_332 := ng hg (bk BK332)
     have NB336_347 := nl hg (bk BK336)
     have NB347_336 := ng hg (bk BK336)
     have NB340_347 := nl hg (bk BK340)
     have NB347_340 := ng hg (bk BK340)
     replace BK324 := bb (bk BK324) hb
     replace BK325 := bb (bk BK325) hb
     replace BK326 := bb (bk BK326) hb
     replace BK331 := bb (bk BK331) hb
     replace BK332 := bb (bk BK332) hb
     replace BK336 := bb (bk BK336) hb
     replace BK340 := bb (bk BK340) hb
     replace HB := hbb (hzs HB) hb
     clear hb hbox hg
     refine hK.out _ _ ⟨cw0 BK324, cw1 BK324, cw0 BK325, cw1 BK325⟩ (fun hHeld => ?_)
     clear hK K
     refine nP ?_
     refine oN 6 44 #[true, true, true, true, true, true, true, true, false] HT_ (fun K hK => ?_)
     refine gS Try.func78 #[.agg #[.int .i64 t341, .int .i64 t342], .agg #[.int .i64 t343, .int .i64 t344]] ?_
     with_reducible refine (impl_times.calls k t341 t342 t343 t344 t345 t346 _ A9.out).mono ?_
     rintro e w58 ⟨rfl, hb⟩
     refine ⟨_, rfl, ?_⟩
     replace BK324 := bb (bk BK324) hb
     replace BK325 := bb (bk BK325) hb
     replace BK326 := bb (bk BK326) hb
     replace BK331 := bb (bk BK331) hb
     replace BK332 := bb (bk BK332) hb
     replace BK336 := bb (bk BK336) hb
     replace BK340 := bb (bk BK340) hb
     replace BK347 := bb (bk BK347) hb
     replace HB := hbb (hzs HB) hb
     clear hb
     refine hK.out _ _ ⟨cw0 BK324, cw1 BK324, cw0 BK325, cw1 BK325⟩ (fun hHeld => ?_)
     clear hK K
     refine nP ?_
     exact nm (hCont (gb347) _ ⟨hHeld, (bk BK324), (bk BK325), (bk BK326), (bk BK331), (bk BK332), (bk BK336), (bk BK340), (bk BK347), GW347.out, GE347.out, NB324_347.out, NB347_324.out, NB325_347.out, NB347_325.out, NB326_347.out, NB347_326.out, NB331_347.out, NB347_331.out, NB332_347.out, NB347_332.out, NB336_347.out, NB347_336.out, NB340_347.out, NB347_340.out, (hzs HB)⟩)
   ·skip
    refine bS 11 #[.int .i64 0, .int .i64 0] 42 ?_
    intro gb347 hg w56 hbox hb
    have BK347 := Aside0.mk (hbox)
    have GE347 := gw hg (hzs HB)
    have GW347 := GE347
    have NB324_347 := nl hg (bk BK324)
    have NB347_324 := ng hg (bk BK324)
    have NB325_347 := nl hg (bk BK325)
    have NB347_325 := ng hg (bk BK325)
    have NB326_347 := nl hg (bk BK326)
    have NB347_326 := ng hg (bk BK326)
    have NB331_347 := nl hg (bk BK331)
    have NB347_331 := ng hg (bk BK331)
    have NB332_347 := nl hg (bk BK332)
    have NB347_332 := ng hg (bk BK332)
    have NB336_347 := nl hg (bk BK336)
    have NB347_336 := ng hg (bk BK336)
    have NB340_347 := nl hg (bk BK340)
    have NB347_340 := ng hg (bk BK340)
    replace BK324 := bb (bk BK324) hb
    replace BK325 := bb (bk BK325) hb
    replace BK326 := bb (bk BK326) hb
    replace BK331 := bb (bk BK331) hb
    replace BK332 := bb (bk BK332) hb
    replace BK336 := bb (bk BK336) hb
    replace BK340 := bb (bk BK340) hb
    replace HB := hbb (hzs HB) hb
    clear hb hbox hg
    refine hK.out _ _ ⟨cw0 BK324, cw1 BK324, cw0 BK325, cw1 BK325⟩ (fun hHeld => ?_)
    clear hK K
    refine nP ?_
    refine oN 5 43 #[true, true, true, true, true, true, false, true, false] HT_ (fun K hK => ?_)
    refine gS Try.func79 #[.int .i64 a1_0] ?_
    with_reducible refine (impl_cosine.calls k a1_0 t343 t344 _ A8.out).mono ?_
    rintro e w57 ⟨rfl, hb⟩
    refine ⟨_, rfl, ?_⟩
    replace BK324 := bb (bk BK324) hb
    replace BK325 := bb (bk BK325) hb
    replace BK326 := bb (bk BK326) hb
    replace BK331 := bb (bk BK331) hb
    replace BK332 := bb (bk BK332) hb
    replace BK336 := bb (bk BK336) hb
    replace BK340 := bb (bk BK340) hb
    replace BK347 := bb (bk BK347) hb
    replace HB := hbb (hzs HB) hb
    clear hb
    refine hK.out _ _ ⟨cw0 BK324, cw1 BK324, cw0 BK325, cw1 BK325⟩ (fun hHeld => ?_)
    clear hK K
    refine nP ?_
    refine oN 6 44 #[true, true, true, true, true, true, true, true, false] HT_ (fun K hK => ?_)
    refine gS Try.func78 #[.agg #[.int .i64 t341, .int .i64 t342], .agg #[.int .i64 t343, .int .i64 t344]] ?_
    with_reducible refine (impl_times.calls k t341 t342 t343 t344 t345 t346 _ A9.out).mono ?_
    rintro e w58 ⟨rfl, hb⟩
    refine ⟨_, rfl, ?_⟩
    replace BK324 := bb (bk BK324) hb
    replace BK325 := bb (bk BK325) hb
    replace BK326 := bb (bk BK326) hb
    replace BK331 := bb (bk BK331) hb
    replace BK332 := bb (bk BK332) hb
    replace BK336 := bb (bk BK336) hb
    replace BK340 := bb (bk BK340) hb
    replace BK347 := bb (bk BK347) hb
    replace HB := hbb (hzs HB) hb
    clear hb
    refine hK.out _ _ ⟨cw0 BK324, cw1 BK324, cw0 BK325, cw1 BK325⟩ (fun hHeld => ?_)
    clear hK K
    refine nP ?_
    exact nm (hCont (gb347) _ ⟨hHeld, (bk BK324), (bk BK325), (bk BK326), (bk BK331), (bk BK332), (bk BK336), (bk BK340), (bk BK347), GW347.out, GE347.out, NB324_347.out, NB347_324.out, NB325_347.out, NB347_325.out, NB326_347.out, NB347_326.out, NB331_347.out, NB347_331.out, NB332_347.out, NB347_332.out, NB336_347.out, NB347_336.out, NB340_347.out, NB347_340.out, (hzs HB)⟩)
  ·skip
   refine bS 11 #[.int .i64 0, .int .i64 0] 42 ?_
   intro gb347 hg w55 hbox hb
   have BK347 := Aside0.mk (hbox)
   have GE347 := gw hg (hzs HB)
   have GW347 := GE347
   have NB324_347 := nl hg (bk BK324)
   have NB347_324 := ng hg (bk BK324)
   have NB325_347 := nl hg (bk BK325)
   have NB347_325 := ng hg (bk BK325)
   have NB326_347 := nl hg (bk BK326)
   have NB347_326 := ng hg (bk BK326)
   have NB331_347 := nl hg (bk BK331)
   have NB347_331 := ng hg (bk BK331)
   have NB332_347 := nl hg (bk BK332)
   have NB347_332 := ng hg (bk BK332)
   have NB336_347 := nl hg (bk BK336)
   have NB347_336 := ng hg (bk BK336)
   have NB340_347 := nl hg (bk BK340)
   have NB347_340 := ng hg (bk BK340)
   replace BK324 := bb (bk BK324) hb
   replace BK325 := bb (bk BK325) hb
   replace BK326 := bb (bk BK326) hb
   replace BK331 := bb (bk BK331) hb
   replace BK332 := bb (bk BK332) hb
   replace BK336 := bb (bk BK336) hb
   replace BK340 := bb (bk BK340) hb
   replace HB := hbb (hzs HB) hb
   clear hb hbox hg
   refine hK.out _ _ ⟨cw0 BK324, cw1 BK324, cw0 BK325, cw1 BK325⟩ (fun hHeld => ?_)
   clear hK K
   refine nP ?_
   refine oN 2 40 #[true, true, true, true, true, false, false, true, false] HT_ (fun K hK => ?_)
   refine gS Try.func79 #[.int .i64 a0_0] ?_
   with_reducible refine (impl_cosine.calls k a0_0 t341 t342 _ A7.out).mono ?_
   rintro e w56 ⟨rfl, hb⟩
   refine ⟨_, rfl, ?_⟩
   replace BK324 := bb (bk BK324) hb
   replace BK325 := bb (bk BK325) hb
   replace BK326 := bb (bk BK326) hb
   replace BK331 := bb (bk BK331) hb
   replace BK332 := bb (bk BK332) hb
   replace BK336 := bb (bk BK336) hb
   replace BK340 := bb (bk BK340) hb
   replace BK347 := bb (bk BK347) hb
   replace HB := hbb (hzs HB) hb
   clear hb
   refine hK.out _ _ ⟨cw0 BK324, cw1 BK324, cw0 BK325, cw1 BK325⟩ (fun hHeld => ?_)
   clear hK K
   refine nP ?_
   refine oN 5 43 #[true, true, true, true, true, true, false, true, false] HT_ (fun K hK => ?_)
   refine gS Try.func79 #[.int .i64 a1_0] ?_
   with_reducible refine (impl_cosine.calls k a1_0 t343 t344 _ A8.out).mono ?_
   rintro e w57 ⟨rfl, hb⟩
   refine ⟨_, rfl, ?_⟩
   replace BK324 := bb (bk BK324) hb
   replace BK325 := bb (bk BK325) hb
   replace BK326 := bb (bk BK326) hb
   replace BK331 := bb (bk BK331) hb
   replace BK332 := bb (bk BK332) hb
   replace BK336 := bb (bk BK336) hb
   replace BK340 := bb (bk BK340) hb
   replace BK347 := bb (bk BK347) hb
   replace HB := hbb (hzs HB) hb
   clear hb
   refine hK.out _ _ ⟨cw0 BK324, cw1 BK324, cw0 BK325, cw1 BK325⟩ (fun hHeld => ?_)
   clear hK K
   refine nP ?_
   refine oN 6 44 #[true, true, true, true, true, true, true, true, false] HT_ (fun K hK => ?_)
   refine gS Try.func78 #[.agg #[.int .i64 t341, .int .i64 t342], .agg #[.int .i64 t343, .int .i64 t344]] ?_
   with_reducible refine (impl_times.calls k t341 t342 t343 t344 t345 t346 _ A9.out).mono ?_
   rintro e w58 ⟨rfl, hb⟩
   refine ⟨_, rfl, ?_⟩
   replace BK324 := bb (bk BK324) hb
   replace BK325 := bb (bk BK325) hb
   replace BK326 := bb (bk BK326) hb
   replace BK331 := bb (bk BK331) hb
   replace BK332 := bb (bk BK332) hb
   replace BK336 := bb (bk BK336) hb
   replace BK340 := bb (bk BK340) hb
   replace BK347 := bb (bk BK347) hb
   replace HB := hbb (hzs HB) hb
   clear hb
   refine hK.out _ _ ⟨cw0 BK324, cw1 BK324, cw0 BK325, cw1 BK325⟩ (fun hHeld => ?_)
   clear hK K
   refine nP ?_
   exact nm (hCont (gb347) _ ⟨hHeld, (bk BK324), (bk BK325), (bk BK326), (bk BK331), (bk BK332), (bk BK336), (bk BK340), (bk BK347), GW347.out, GE347.out, NB324_347.out, NB347_324.out, NB325_347.out, NB347_325.out, NB326_347.out, NB347_326.out, NB331_347.out, NB347_331.out, NB332_347.out, NB347_332.out, NB336_347.out, NB347_336.out, NB340_347.out, NB347_340.out, (hzs HB)⟩)
 rintro gb347 w59 ⟨hS_, h0_, h1_, h2_, h3_, h4_, h5_, h6_, h7_, h8_, h9_, h10_, h11_, h12_, h13_, h14_, h15_, h16_, h17_, h18_, h19_, h20_, h21_, h22_, h23_, h24_⟩
 replace BK324 := Aside0.mk h0_
 replace BK325 := Aside0.mk h1_
 replace BK326 := Aside0.mk h2_
 replace BK331 := Aside0.mk h3_
 replace BK332 := Aside0.mk h4_
 replace BK336 := Aside0.mk h5_
 replace BK340 := Aside0.mk h6_
 have BK347 := Aside0.mk h7_
 have GW347 := Aside0.mk h8_
 have GE347 := Aside0.mk h9_
 have NB324_347 := Aside0.mk h10_
 have NB347_324 := Aside0.mk h11_
 have NB325_347 := Aside0.mk h12_
 have NB347_325 := Aside0.mk h13_
 have NB326_347 := Aside0.mk h14_
 have NB347_326 := Aside0.mk h15_
 have NB331_347 := Aside0.mk h16_
 have NB347_331 := Aside0.mk h17_
 have NB332_347 := Aside0.mk h18_
 have NB347_332 := Aside0.mk h19_
 have NB336_347 := Aside0.mk h20_
 have NB347_336 := Aside0.mk h21_
 have NB340_347 := Aside0.mk h22_
 have NB347_340 := Aside0.mk h23_
 replace HB := Aside0.mk h24_
 clear h0_ h1_ h2_ h3_ h4_ h5_ h6_ h7_ h8_ h9_ h10_ h11_ h12_ h13_ h14_ h15_ h16_ h17_ h18_ h19_ h20_ h21_ h22_ h23_ h24_
 have hHeld : w59.cell? ⟨gb324, 0, none⟩ = some (.int .i64 a0_0) ∧ w59.cell? ⟨gb324, 1, none⟩ = some (.int .i64 a0_1) ∧ w59.cell? ⟨gb325, 0, none⟩ = some (.int .i64 a1_0) ∧ w59.cell? ⟨gb325, 1, none⟩ = some (.int .i64 a1_1) := hS_
 refine norm_ (a' := ?_) ?_ ?_
 rotate_left
 ·simp only [putAll, Act.put, List.setIfInBounds_toArray, List.set_cons_zero, List.set_cons_succ]
  rfl
 refine one_ (i := 8) (N := none) #[true, true, true, true, true, true, true, true, true] rfl rfl (one_of HT_.out (by kernel_rfl)) (by decide) (fun K hK => ?_)
 have hs60 : w59.cell? ⟨gb347, 0, none⟩ = some (.int .i64 0) := (blk_cell BK347.out 0).trans rfl
 have hfs60 := blk_frozen BK347.out 0
 have hns60_0 := NB324_347.out
 have hns60_1 := NB325_347.out
 have hns60_2 := NB326_347.out
 have hns60_3 := NB331_347.out
 have hns60_4 := NB332_347.out
 have hns60_5 := NB336_347.out
 have hns60_6 := NB340_347.out
 have hms60_0 := NB347_324.out
 have hms60_1 := NB347_325.out
 have hms60_2 := NB347_326.out
 have hms60_3 := NB347_331.out
 have hms60_4 := NB347_332.out
 have hms60_5 := NB347_336.out
 have hms60_6 := NB347_340.out
 have hs61 : w59.cell? ⟨gb347, 1, none⟩ = some (.int .i64 0) := (blk_cell BK347.out 1).trans rfl
 have hfs61 := blk_frozen BK347.out 1
 have hns61_0 := NB324_347.out
 have hns61_1 := NB325_347.out
 have hns61_2 := NB326_347.out
 have hns61_3 := NB331_347.out
 have hns61_4 := NB332_347.out
 have hns61_5 := NB336_347.out
 have hns61_6 := NB340_347.out
 have hms61_0 := NB347_324.out
 have hms61_1 := NB347_325.out
 have hms61_2 := NB347_326.out
 have hms61_3 := NB347_331.out
 have hms61_4 := NB347_332.out
 have hms61_5 := NB347_336.out
 have hms61_6 := NB347_340.out
 refine skip_ (w1 := ?_) (by rfl) rfl ?_ ?_
 rotate_left
 ·go_simp
  rfl
 refine hK.out _ _ ⟨((cell_far (p := ⟨gb347, _, none⟩) NB324_347.out _).trans (((cell_far (p := ⟨gb347, _, none⟩) NB324_347.out _).trans (hHeld.1)))), ((cell_far (p := ⟨gb347, _, none⟩) NB324_347.out _).trans (((cell_far (p := ⟨gb347, _, none⟩) NB324_347.out _).trans (hHeld.2.1)))), ((cell_far (p := ⟨gb347, _, none⟩) NB325_347.out _).trans (((cell_far (p := ⟨gb347, _, none⟩) NB325_347.out _).trans (hHeld.2.2.1)))), ((cell_far (p := ⟨gb347, _, none⟩) NB325_347.out _).trans (((cell_far (p := ⟨gb347, _, none⟩) NB325_347.out _).trans (hHeld.2.2.2))))⟩ (fun hHeld => ?_)
 clear hK K
 refine done_ (done_of HT_.out (by kernel_rfl)) ?_
 try go_wp2
 have n0_ : Aside0 (((w59.setCell ⟨gb347, 0, none⟩ (.int .i64 t345)).setCell ⟨gb347, 1, none⟩ (.int .i64 t346)).heap[gb324]? = some (.cells #[.int .i64 a0_0, .int .i64 a0_1] 24 (0, 0))) := ⟨bk1 BK324 NB324_347⟩
 have n1_ : Aside0 (((w59.setCell ⟨gb347, 0, none⟩ (.int .i64 t345)).setCell ⟨gb347, 1, none⟩ (.int .i64 t346)).heap[gb325]? = some (.cells #[.int .i64 a1_0, .int .i64 a1_1] 24 (0, 0))) := ⟨bk1 BK325 NB325_347⟩
 have n2_ : Aside0 (((w59.setCell ⟨gb347, 0, none⟩ (.int .i64 t345)).setCell ⟨gb347, 1, none⟩ (.int .i64 t346)).heap[gb326]? = some (.cells #[.int .i64 0, .int .i64 0] 42 (0, 0))) := ⟨bk1 BK326 NB326_347⟩
 have n3_ : Aside0 (((w59.setCell ⟨gb347, 0, none⟩ (.int .i64 t345)).setCell ⟨gb347, 1, none⟩ (.int .i64 t346)).heap[gb331]? = some (.cells #[.int .i64 t327, .int .i64 t328] 42 (0, 0))) := ⟨bk1 BK331 NB331_347⟩
 have n4_ : Aside0 (((w59.setCell ⟨gb347, 0, none⟩ (.int .i64 t345)).setCell ⟨gb347, 1, none⟩ (.int .i64 t346)).heap[gb332]? = some (.cells #[.int .i64 t329, .int .i64 t330] 42 (0, 0))) := ⟨bk1 BK332 NB332_347⟩
 have n5_ : Aside0 (((w59.setCell ⟨gb347, 0, none⟩ (.int .i64 t345)).setCell ⟨gb347, 1, none⟩ (.int .i64 t346)).heap[gb336]? = some (.cells #[.int .i64 t333, .int .i64 t334] 42 (0, 0))) := ⟨bk1 BK336 NB336_347⟩
 have n6_ : Aside0 (((w59.setCell ⟨gb347, 0, none⟩ (.int .i64 t345)).setCell ⟨gb347, 1, none⟩ (.int .i64 t346)).heap[gb340]? = some (.cells #[.int .i64 t337, .int .i64 t338] 42 (0, 0))) := ⟨bk1 BK340 NB340_347⟩
 have n7_ : Aside0 (((w59.setCell ⟨gb347, 0, none⟩ (.int .i64 t345)).setCell ⟨gb347, 1, none⟩ (.int .i64 t346)).heap[gb347]? = some (.cells #[.int .i64 t345, .int .i64 t346] 42 (0, 0))) := ⟨bkp BK347⟩
 have n8_ : Aside0 (Below w.heap.size w ((w59.setCell ⟨gb347, 0, none⟩ (.int .i64 t345)).setCell ⟨gb347, 1, none⟩ (.int .i64 t346))) := ⟨hzs HB⟩
 (try clear BK324)
 (try clear BK325)
 (try clear BK326)
 (try clear BK331)
 (try clear BK332)
 (try clear BK336)
 (try clear BK340)
 (try clear BK347)
 (try clear HB)
 generalize ((w59.setCell ⟨gb347, 0, none⟩ (.int .i64 t345)).setCell ⟨gb347, 1, none⟩ (.int .i64 t346)) = w62 at n0_ n1_ n2_ n3_ n4_ n5_ n6_ n7_ n8_ ⊢
 have BK324 := n0_
 have BK325 := n1_
 have BK326 := n2_
 have BK331 := n3_
 have BK332 := n4_
 have BK336 := n5_
 have BK340 := n6_
 have BK347 := n7_
 have HB := n8_
 clear n0_ n1_ n2_ n3_ n4_ n5_ n6_ n7_ n8_
 replace BK324 := Aside0.mk (blk_drew BK324.out)
 replace BK325 := Aside0.mk (blk_drew BK325.out)
 replace BK326 := Aside0.mk (blk_drew BK326.out)
 replace BK331 := Aside0.mk (blk_drew BK331.out)
 replace BK332 := Aside0.mk (blk_drew BK332.out)
 replace BK336 := Aside0.mk (blk_drew BK336.out)
 replace BK340 := Aside0.mk (blk_drew BK340.out)
 replace BK347 := Aside0.mk (blk_drew BK347.out)
 replace HB := Aside0.mk (below_drew1 HB.out)
 refine start_ (n := 10) (S := fun w' => w'.cell? ⟨gb347, 0, none⟩ = some (.int .i64 t345) ∧ w'.cell? ⟨gb347, 1, none⟩ = some (.int .i64 t346) ∧ w'.cell? ⟨gb340, 0, none⟩ = some (.int .i64 t337) ∧ w'.cell? ⟨gb340, 1, none⟩ = some (.int .i64 t338)) (ds := []) #[false, false, false, false, false, false, false, false, false, false] (by kernel_rfl) rfl rfl ⟨cw0 BK347, cw1 BK347, cw0 BK340, cw1 BK340⟩ (fun hHeld => ?_); refine with_tabW impl_square.tab5 impl_square.bits5 (fun HT_ HW_ => ?_)
 generalize w62.drew = w63 at BK324 BK325 BK326 BK331 BK332 BK336 BK340 BK347 HB hHeld ⊢
 refine take_ (i := 0) (N := some 46) (v := ?_) (a' := ?_) #[true, false, false, false, false, false, false, false, false, false] rfl rfl (take_ofW HT_.out HW_.out (by kernel_rfl)) (fun _ _ _ h => h) (Or.inl ⟨by rfl, ?_⟩) hHeld ?_ ?_
 rotate_left
 ·rintro w' ⟨s0, s1, s2, s3⟩
  go_simp
  with_reducible rfl
 rotate_left
 ·simp only [Act.put, List.setIfInBounds_toArray, List.set_cons_zero, List.set_cons_succ, i64_w, i32_w]
  rfl
 refine take_ (i := 1) (N := some 47) (v := ?_) (a' := ?_) #[true, true, false, false, false, false, false, false, false, false] rfl rfl (take_ofW HT_.out HW_.out (by kernel_rfl)) (fun _ _ _ h => h) (Or.inl ⟨by rfl, ?_⟩) hHeld ?_ ?_
 rotate_left
 ·rintro w' ⟨s0, s1, s2, s3⟩
  go_simp
  with_reducible rfl
 rotate_left
 ·simp only [Act.put, List.setIfInBounds_toArray, List.set_cons_zero, List.set_cons_succ, i64_w, i32_w]
  rfl
 refine join_ (σ := Nat) 2 #[true, true, true, true, true, true, true, true, false, false] (fun s_ => [(48, .agg #[.int .i64 t348, .int .i64 t349]), (49, .tuple #[.agg #[.int .i64 t350, .int .i64 t351], .bool t352]), (12, .pointer (some ⟨s_, 0, none⟩)), (45, .tuple #[.agg #[.int .i64 t350, .int .i64 t351], .bool t352]), (50, .agg #[.int .i64 t350, .int .i64 t351]), (51, .bool t352)]) (fun s_ w' => (w'.cell? ⟨gb347, 0, none⟩ = some (.int .i64 t345) ∧ w'.cell? ⟨gb347, 1, none⟩ = some (.int .i64 t346) ∧ w'.cell? ⟨gb340, 0, none⟩ = some (.int .i64 t337) ∧ w'.cell? ⟨gb340, 1, none⟩ = some (.int .i64 t338)) ∧ (w'.heap[gb324]? = some (.cells #[.int .i64 a0_0, .int .i64 a0_1] 24 (0, 0))) ∧ (w'.heap[gb325]? = some (.cells #[.int .i64 a1_0, .int .i64 a1_1] 24 (0, 0))) ∧ (w'.heap[gb326]? = some (.cells #[.int .i64 0, .int .i64 0] 42 (0, 0))) ∧ (w'.heap[gb331]? = some (.cells #[.int .i64 t327, .int .i64 t328] 42 (0, 0))) ∧ (w'.heap[gb332]? = some (.cells #[.int .i64 t329, .int .i64 t330] 42 (0, 0))) ∧ (w'.heap[gb336]? = some (.cells #[.int .i64 t333, .int .i64 t334] 42 (0, 0))) ∧ (w'.heap[gb340]? = some (.cells #[.int .i64 t337, .int .i64 t338] 42 (0, 0))) ∧ (w'.heap[gb347]? = some (.cells #[.int .i64 t345, .int .i64 t346] 42 (0, 0))) ∧ (w'.heap[s_]? = some (.cells #[.int .i64 0, .int .i64 0] 42 (0, 0))) ∧ (w.heap.size ≤ s_) ∧ (w.heap.size ≤ s_) ∧ (gb324 ≠ s_) ∧ (s_ ≠ gb324) ∧ (gb325 ≠ s_) ∧ (s_ ≠ gb325) ∧ (gb326 ≠ s_) ∧ (s_ ≠ gb326) ∧ (gb331 ≠ s_) ∧ (s_ ≠ gb331) ∧ (gb332 ≠ s_) ∧ (s_ ≠ gb332) ∧ (gb336 ≠ s_) ∧ (s_ ≠ gb336) ∧ (gb340 ≠ s_) ∧ (s_ ≠ gb340) ∧ (gb347 ≠ s_) ∧ (s_ ≠ gb347) ∧ (Below w.heap.size w w')) ?_ ?_
 rotate_left
 ·intro hCont
  refine tW 2 7 48 12 #[true, true, true, false, false, false, false, false, false, false] #[true, true, false, false, false, false, false, true, false, false] HT_ (fun K hK => ?_) (fun K hK => ?_)
  ·skip
   refine gS Try.func48 #[.agg #[.int .i64 t337, .int .i64 t338]] ?_
   with_reducible refine (impl_clip.calls t337 t338 t348 t349 _ A10.out).mono ?_
   rintro e w64 ⟨rfl, hb⟩
   refine ⟨_, rfl, ?_⟩
   replace BK324 := bb (bk BK324) hb
   replace BK325 := bb (bk BK325) hb
   replace BK326 := bb (bk BK326) hb
   replace BK331 := bb (bk BK331) hb
   replace BK332 := bb (bk BK332) hb
   replace BK336 := bb (bk BK336) hb
   replace BK340 := bb (bk BK340) hb
   replace BK347 := bb (bk BK347) hb
   replace HB := hbb (hzs HB) hb
   clear hb
   refine hK.out _ _ ⟨cw0 BK347, cw1 BK347, cw0 BK340, cw1 BK340⟩ (fun hHeld => ?_)
   clear hK K
   refine nP ?_
   refine tW 3 7 49 12 #[true, true, true, true, false, false, false, false, false, false] #[true, true, true, false, false, false, false, true, false, false] HT_ (fun K hK => ?_) (fun K hK => ?_)
   ·skip
    refine gS Try.func77 #[.agg #[.int .i64 t345, .int .i64 t346], .agg #[.int .i64 t348, .int .i64 t349]] ?_
    with_reducible refine (impl_SpanMul.calls k t345 t346 t348 t349 t350 t351 t352 _ A11.out).mono ?_
    rintro e w65 ⟨rfl, hb⟩
    refine ⟨_, rfl, ?_⟩
    replace BK324 := bb (bk BK324) hb
    replace BK325 := bb (bk BK325) hb
    replace BK326 := bb (bk BK326) hb
    replace BK331 := bb (bk BK331) hb
    replace BK332 := bb (bk BK332) hb
    replace BK336 := bb (bk BK336) hb
    replace BK340 := bb (bk BK340) hb
    replace BK347 := bb (bk BK347) hb
    replace HB := hbb (hzs HB) hb
    clear hb
    refine hK.out _ _ ⟨cw0 BK347, cw1 BK347, cw0 BK340, cw1 BK340⟩ (fun hHeld => ?_)
    clear hK K
    refine nP ?_
    refine pU 4 45 #[true, true, true, true, true, false, false, false, false, false] HT_ ?_
    refine pU 5 50 #[true, true, true, true, true, true, false, false, false, false] HT_ ?_
    refine pU 6 51 #[true, true, true, true, true, true, true, false, false, false] HT_ ?_
    refine oN 7 12 #[true, true, true, true, true, true, true, true, false, false] HT_ (fun K hK => ?_)
    refine bS 12 #[.int .i64 0, .int .i64 0] 42 ?_
    intro gb353 hg w66 hbox hb
    have BK353 := Aside0.mk (hbox)
    have GE353 := gw hg (hzs HB)
    have GW353 := GE353
    have NB324_353 := nl hg (bk BK324)
    have NB353_324 := ng hg (bk BK324)
    have NB325_353 := nl hg (bk BK325)
    have NB353_325 := ng hg (bk BK325)
    have NB326_353 := nl hg (bk BK326)
    have NB353_326 := ng hg (bk BK326)
    have NB331_353 := nl hg (bk BK331)
    have NB353_331 := ng hg (bk BK331)
    have NB332_353 := nl hg (bk BK332)
    have NB353_332 := ng hg (bk BK332)
    have NB336_353 := nl hg (bk BK336)
    have NB353_336 := ng hg (bk BK336)
    have NB340_353 := nl hg (bk BK340)
    have NB353_340 := ng hg (bk BK340)
    have NB347_353 := nl hg (bk BK347)
    have NB353_347 := ng hg (bk BK347)
    replace BK324 := bb (bk BK324) hb
    replace BK325 := bb (bk BK325) hb
    replace BK326 := bb (bk BK326) hb
    replace BK331 := bb (bk BK331) hb
    replace BK332 := bb (bk BK332) hb
    replace BK336 := bb (bk BK336) hb
    replace BK340 := bb (bk BK340) hb
    replace BK347 := bb (bk BK347) hb
    replace HB := hbb (hzs HB) hb
    clear hb hbox hg
    refine hK.out _ _ ⟨cw0 BK347, cw1 BK347, cw0 BK340, cw1 BK340⟩ (fun hHeld => ?_)
    clear hK K
    refine nP ?_
    exact nm (hCont (gb353) _ ⟨hHeld, (bk BK324), (bk BK325), (bk BK326), (bk BK331), (bk BK332), (bk BK336), (bk BK340), (bk BK347), (bk BK353), GW353.out, GE353.out, NB324_353.out, NB353_324.out, NB325_353.out, NB353_325.out, NB326_353.out, NB353_326.out, NB331_353.out, NB353_331.out, NB332_353.out, NB353_332.out, NB336_353.out, NB353_336.out, NB340_353.out, NB353_340.out, NB347_353.out, NB353_347.out, (hzs HB)⟩)
   ·skip
    refine bS 12 #[.int .i64 0, .int .i64 0] 42 ?_
    intro gb353 hg w65 hbox hb
    have BK353 := Aside0.mk (hbox)
    have GE353 := gw hg (hzs HB)
    have GW353 := GE353
    have NB324_353 := nl hg (bk BK324)
    have NB353_324 := ng hg (bk BK324)
    have NB325_353 := nl hg (bk BK325)
    have NB353_325 := ng hg (bk BK325)
    have NB326_353 := nl hg (bk BK326)
    have NB353_326 := ng hg (bk BK326)
    have NB331_353 := nl hg (bk BK331)
    have NB353_331 := ng hg (bk BK331)
    have NB332_353 := nl hg (bk BK332)
    have NB353_332 := ng hg (bk BK332)
    have NB336_353 := nl hg (bk BK336)
    have NB353_336 := ng hg (bk BK336)
    have NB340_353 := nl hg (bk BK340)
    have NB353_340 := ng hg (bk BK340)
    have NB347_353 := nl hg (bk BK347)
    have NB353_347 := ng hg (bk BK347)
    replace BK324 := bb (bk BK324) hb
    replace BK325 := bb (bk BK325) hb
    replace BK326 := bb (bk BK326) hb
    replace BK331 := bb (bk BK331) hb
    replace BK332 := bb (bk BK332) hb
    replace BK336 := bb (bk BK336) hb
    replace BK340 := bb (bk BK340) hb
    replace BK347 := bb (bk BK347) hb
    replace HB := hbb (hzs HB) hb
    clear hb hbox hg
    refine hK.out _ _ ⟨cw0 BK347, cw1 BK347, cw0 BK340, cw1 BK340⟩ (fun hHeld => ?_)
    clear hK K
    refine nP ?_
    refine oN 3 49 #[true, true, true, true, false, false, false, true, false, false] HT_ (fun K hK => ?_)
    refine gS Try.func77 #[.agg #[.int .i64 t345, .int .i64 t346], .agg #[.int .i64 t348, .int .i64 t349]] ?_
    with_reducible refine (impl_SpanMul.calls k t345 t346 t348 t349 t350 t351 t352 _ A11.out).mono ?_
    rintro e w66 ⟨rfl, hb⟩
    refine ⟨_, rfl, ?_⟩
    replace BK324 := bb (bk BK324) hb
    replace BK325 := bb (bk BK325) hb
    replace BK326 := bb (bk BK326) hb
    replace BK331 := bb (bk BK331) hb
    replace BK332 := bb (bk BK332) hb
    replace BK336 := bb (bk BK336) hb
    replace BK340 := bb (bk BK340) hb
    replace BK347 := bb (bk BK347) hb
    replace BK353 := bb (bk BK353) hb
    replace HB := hbb (hzs HB) hb
    clear hb
    refine hK.out _ _ ⟨cw0 BK347, cw1 BK347, cw0 BK340, cw1 BK340⟩ (fun hHeld => ?_)
    clear hK K
    refine nP ?_
    refine pU 4 45 #[true, true, true, true, true, false, false, true, false, false] HT_ ?_
    refine pU 5 50 #[true, true, true, true, true, true, false, true, false, false] HT_ ?_
    refine pU 6 51 #[true, true, true, true, true, true, true, true, false, false] HT_ ?_
    exact nm (hCont (gb353) _ ⟨hHeld, (bk BK324), (bk BK325), (bk BK326), (bk BK331), (bk BK332), (bk BK336), (bk BK340), (bk BK347), (bk BK353), GW353.out, GE353.out, NB324_353.out, NB353_324.out, NB325_353.out, NB353_325.out, NB326_353.out, NB353_326.out, NB331_353.out, NB353_331.out, NB332_353.out, NB353_332.out, NB336_353.out, NB353_336.out, NB340_353.out, NB353_340.out, NB347_353.out, NB353_347.out, (hzs HB)⟩)
  ·skip
   refine bS 12 #[.int .i64 0, .int .i64 0] 42 ?_
   intro gb353 hg w64 hbox hb
   have BK353 := Aside0.mk (hbox)
   have GE353 := gw hg (hzs HB)
   have GW353 := GE353
   have NB324_353 := nl hg (bk BK324)
   have NB353_324 := ng hg (bk BK324)
   have NB325_353 := nl hg (bk BK325)
   have NB353_325 := ng hg (bk BK325)
   have NB326_353 := nl hg (bk BK326)
   have NB353_326 := ng hg (bk BK326)
   have NB331_353 := nl hg (bk BK331)
   have NB353_331 := ng hg (bk BK331)
   have NB332_353 := nl hg (bk BK332)
   have NB353_332 := ng hg (bk BK332)
   have NB336_353 := nl hg (bk BK336)
   have NB353_336 := ng hg (bk BK336)
   have NB340_353 := nl hg (bk BK340)
   have NB353_340 := ng hg (bk BK340)
   have NB347_353 := nl hg (bk BK347)
   have NB353_347 := ng hg (bk BK347)
   replace BK324 := bb (bk BK324) hb
   replace BK325 := bb (bk BK325) hb
   replace BK326 := bb (bk BK326) hb
   replace BK331 := bb (bk BK331) hb
   replace BK332 := bb (bk BK332) hb
   replace BK336 := bb (bk BK336) hb
   replace BK340 := bb (bk BK340) hb
   replace BK347 := bb (bk BK347) hb
   replace HB := hbb (hzs HB) hb
   clear hb hbox hg
   refine hK.out _ _ ⟨cw0 BK347, cw1 BK347, cw0 BK340, cw1 BK340⟩ (fun hHeld => ?_)
   clear hK K
   refine nP ?_
   refine oN 2 48 #[true, true, true, false, false, false, false, true, false, false] HT_ (fun K hK => ?_)
   refine gS Try.func48 #[.agg #[.int .i64 t337, .int .i64 t338]] ?_
   with_reducible refine (impl_clip.calls t337 t338 t348 t349 _ A10.out).mono ?_
   rintro e w65 ⟨rfl, hb⟩
   refine ⟨_, rfl, ?_⟩
   replace BK324 := bb (bk BK324) hb
   replace BK325 := bb (bk BK325) hb
   replace BK326 := bb (bk BK326) hb
   replace BK331 := bb (bk BK331) hb
   replace BK332 := bb (bk BK332) hb
   replace BK336 := bb (bk BK336) hb
   replace BK340 := bb (bk BK340) hb
   replace BK347 := bb (bk BK347) hb
   replace BK353 := bb (bk BK353) hb
   replace HB := hbb (hzs HB) hb
   clear hb
   refine hK.out _ _ ⟨cw0 BK347, cw1 BK347, cw0 BK340, cw1 BK340⟩ (fun hHeld => ?_)
   clear hK K
   refine nP ?_
   refine oN 3 49 #[true, true, true, true, false, false, false, true, false, false] HT_ (fun K hK => ?_)
   refine gS Try.func77 #[.agg #[.int .i64 t345, .int .i64 t346], .agg #[.int .i64 t348, .int .i64 t349]] ?_
   with_reducible refine (impl_SpanMul.calls k t345 t346 t348 t349 t350 t351 t352 _ A11.out).mono ?_
   rintro e w66 ⟨rfl, hb⟩
   refine ⟨_, rfl, ?_⟩
   replace BK324 := bb (bk BK324) hb
   replace BK325 := bb (bk BK325) hb
   replace BK326 := bb (bk BK326) hb
   replace BK331 := bb (bk BK331) hb
   replace BK332 := bb (bk BK332) hb
   replace BK336 := bb (bk BK336) hb
   replace BK340 := bb (bk BK340) hb
   replace BK347 := bb (bk BK347) hb
   replace BK353 := bb (bk BK353) hb
   replace HB := hbb (hzs HB) hb
   clear hb
   refine hK.out _ _ ⟨cw0 BK347, cw1 BK347, cw0 BK340, cw1 BK340⟩ (fun hHeld => ?_)
   clear hK K
   refine nP ?_
   refine pU 4 45 #[true, true, true, true, true, false, false, true, false, false] HT_ ?_
   refine pU 5 50 #[true, true, true, true, true, true, false, true, false, false] HT_ ?_
   refine pU 6 51 #[true, true, true, true, true, true, true, true, false, false] HT_ ?_
   exact nm (hCont (gb353) _ ⟨hHeld, (bk BK324), (bk BK325), (bk BK326), (bk BK331), (bk BK332), (bk BK336), (bk BK340), (bk BK347), (bk BK353), GW353.out, GE353.out, NB324_353.out, NB353_324.out, NB325_353.out, NB353_325.out, NB326_353.out, NB353_326.out, NB331_353.out, NB353_331.out, NB332_353.out, NB353_332.out, NB336_353.out, NB353_336.out, NB340_353.out, NB353_340.out, NB347_353.out, NB353_347.out, (hzs HB)⟩)
 rintro gb353 w67 ⟨hS_, h0_, h1_, h2_, h3_, h4_, h5_, h6_, h7_, h8_, h9_, h10_, h11_, h12_, h13_, h14_, h15_, h16_, h17_, h18_, h19_, h20_, h21_, h22_, h23_, h24_, h25_, h26_, h27_⟩
 replace BK324 := Aside0.mk h0_
 replace BK325 := Aside0.mk h1_
 replace BK326 := Aside0.mk h2_
 replace BK331 := Aside0.mk h3_
 replace BK332 := Aside0.mk h4_
 replace BK336 := Aside0.mk h5_
 replace BK340 := Aside0.mk h6_
 replace BK347 := Aside0.mk h7_
 have BK353 := Aside0.mk h8_
 have GW353 := Aside0.mk h9_
 have GE353 := Aside0.mk h10_
 have NB324_353 := Aside0.mk h11_
 have NB353_324 := Aside0.mk h12_
 have NB325_353 := Aside0.mk h13_
 have NB353_325 := Aside0.mk h14_
 have NB326_353 := Aside0.mk h15_
 have NB353_326 := Aside0.mk h16_
 have NB331_353 := Aside0.mk h17_
 have NB353_331 := Aside0.mk h18_
 have NB332_353 := Aside0.mk h19_
 have NB353_332 := Aside0.mk h20_
 have NB336_353 := Aside0.mk h21_
 have NB353_336 := Aside0.mk h22_
 have NB340_353 := Aside0.mk h23_
 have NB353_340 := Aside0.mk h24_
 have NB347_353 := Aside0.mk h25_
 have NB353_347 := Aside0.mk h26_
 replace HB := Aside0.mk h27_
 clear h0_ h1_ h2_ h3_ h4_ h5_ h6_ h7_ h8_ h9_ h10_ h11_ h12_ h13_ h14_ h15_ h16_ h17_ h18_ h19_ h20_ h21_ h22_ h23_ h24_ h25_ h26_ h27_
 have hHeld : w67.cell? ⟨gb347, 0, none⟩ = some (.int .i64 t345) ∧ w67.cell? ⟨gb347, 1, none⟩ = some (.int .i64 t346) ∧ w67.cell? ⟨gb340, 0, none⟩ = some (.int .i64 t337) ∧ w67.cell? ⟨gb340, 1, none⟩ = some (.int .i64 t338) := hS_
 refine norm_ (a' := ?_) ?_ ?_
 rotate_left
 ·simp only [putAll, Act.put, List.setIfInBounds_toArray, List.set_cons_zero, List.set_cons_succ]
  rfl
 refine one_ (i := 8) (N := none) #[true, true, true, true, true, true, true, true, true, false] rfl rfl (one_of HT_.out (by kernel_rfl)) (by decide) (fun K hK => ?_)
 have hs68 : w67.cell? ⟨gb353, 0, none⟩ = some (.int .i64 0) := (blk_cell BK353.out 0).trans rfl
 have hfs68 := blk_frozen BK353.out 0
 have hns68_0 := NB324_353.out
 have hns68_1 := NB325_353.out
 have hns68_2 := NB326_353.out
 have hns68_3 := NB331_353.out
 have hns68_4 := NB332_353.out
 have hns68_5 := NB336_353.out
 have hns68_6 := NB340_353.out
 have hns68_7 := NB347_353.out
 have hms68_0 := NB353_324.out
 have hms68_1 := NB353_325.out
 have hms68_2 := NB353_326.out
 have hms68_3 := NB353_331.out
 have hms68_4 := NB353_332.out
 have hms68_5 := NB353_336.out
 have hms68_6 := NB353_340.out
 have hms68_7 := NB353_347.out
 have hs69 : w67.cell? ⟨gb353, 1, none⟩ = some (.int .i64 0) := (blk_cell BK353.out 1).trans rfl
 have hfs69 := blk_frozen BK353.out 1
 have hns69_0 := NB324_353.out
 have hns69_1 := NB325_353.out
 have hns69_2 := NB326_353.out
 have hns69_3 := NB331_353.out
 have hns69_4 := NB332_353.out
 have hns69_5 := NB336_353.out
 have hns69_6 := NB340_353.out
 have hns69_7 := NB347_353.out
 have hms69_0 := NB353_324.out
 have hms69_1 := NB353_325.out
 have hms69_2 := NB353_326.out
 have hms69_3 := NB353_331.out
 have hms69_4 := NB353_332.out
 have hms69_5 := NB353_336.out
 have hms69_6 := NB353_340.out
 have hms69_7 := NB353_347.out
 refine skip_ (w1 := ?_) (by rfl) rfl ?_ ?_
 rotate_left
 ·go_simp
  rfl
 refine hK.out _ _ ⟨((cell_far (p := ⟨gb353, _, none⟩) NB347_353.out _).trans (((cell_far (p := ⟨gb353, _, none⟩) NB347_353.out _).trans (hHeld.1)))), ((cell_far (p := ⟨gb353, _, none⟩) NB347_353.out _).trans (((cell_far (p := ⟨gb353, _, none⟩) NB347_353.out _).trans (hHeld.2.1)))), ((cell_far (p := ⟨gb353, _, none⟩) NB340_353.out _).trans (((cell_far (p := ⟨gb353, _, none⟩) NB340_353.out _).trans (hHeld.2.2.1)))), ((cell_far (p := ⟨gb353, _, none⟩) NB340_353.out _).trans (((cell_far (p := ⟨gb353, _, none⟩) NB340_353.out _).trans (hHeld.2.2.2))))⟩ (fun hHeld => ?_)
 clear hK K
 refine pU 9 13 #[true, true, true, true, true, true, true, true, true, true] HT_ ?_
 refine done_ (done_of HT_.out (by kernel_rfl)) ?_
 have hnb70 := NB336_347.out
 have hnc70 := NB347_336.out
 have hnb71 := NB336_353.out
 have hnc71 := NB353_336.out
 obtain ⟨hcz72_0, hcz72_1, hfz72_0, hfz72_1⟩ := cz2 BK336
 try go_wp2_with (first | ((with_reducible refine gate_callee (f := 48) rfl ?_); refine gL 53 Try.func48 #[.agg #[.int .i64 t333, .int .i64 t334]] ?_; (with_reducible refine (impl_clip.calls t333 t334 t354 t355 _ A12.out).mono ?_); rintro e w73 ⟨rfl, hb⟩; refine ⟨_, rfl, ?_⟩; replace BK324 := bb (bk1 BK324 NB324_353) hb; replace BK325 := bb (bk1 BK325 NB325_353) hb; replace BK326 := bb (bk1 BK326 NB326_353) hb; replace BK331 := bb (bk1 BK331 NB331_353) hb; replace BK332 := bb (bk1 BK332 NB332_353) hb; replace BK336 := bb (bk1 BK336 NB336_353) hb; replace BK340 := bb (bk1 BK340 NB340_353) hb; replace BK347 := bb (bk1 BK347 NB347_353) hb; replace BK353 := bb (o := .cells #[.int .i64 t350, .int .i64 t351] 42 (0, 0)) (bkp BK353) hb; replace HB := hbb (hzs HB) hb; clear hb; obtain ⟨hcz74_0, hcz74_1, hfz74_0, hfz74_1⟩ := cz2 BK336; have hnb75 := NB353_324.out; have hnc75 := NB324_353.out; have hnb76 := NB353_325.out; have hnc76 := NB325_353.out; have hnb77 := NB353_326.out; have hnc77 := NB326_353.out; have hnb78 := NB353_331.out; have hnc78 := NB331_353.out; have hnb79 := NB353_332.out; have hnc79 := NB332_353.out; have hnb80 := NB353_340.out; have hnc80 := NB340_353.out; have hnb81 := NB353_347.out; have hnc81 := NB347_353.out; obtain ⟨hcz82_0, hcz82_1, hfz82_0, hfz82_1⟩ := cz2 BK353) | ((with_reducible refine gate_callee (f := 48) rfl ?_); refine gL 65 Try.func48 #[.agg #[.int .i64 (wrap64 (t350 + t354)), .int .i64 (wrap64 (t351 + t355))]] ?_; (with_reducible refine (impl_clip.calls (wrap64 (t350 + t354)) (wrap64 (t351 + t355)) t356 t357 _ A13.out).mono ?_); rintro e w83 ⟨rfl, hb⟩; refine ⟨_, rfl, ?_⟩; replace BK324 := bb (bk1 BK324 NB324_336) hb; replace BK325 := bb (bk1 BK325 NB325_336) hb; replace BK326 := bb (bk1 BK326 NB326_336) hb; replace BK331 := bb (bk1 BK331 NB331_336) hb; replace BK332 := bb (bk1 BK332 NB332_336) hb; replace BK336 := bb (o := .cells #[.int .i64 t354, .int .i64 t355] 42 (0, 0)) (bkp BK336) hb; replace BK340 := bb (bk1 BK340 NB340_336) hb; replace BK347 := bb (bk1 BK347 NB347_336) hb; replace BK353 := bb (bk1 BK353 NB353_336) hb; replace HB := hbb (hzs HB) hb; clear hb; have hnb84 := NB326_324.out; have hnc84 := NB324_326.out; have hnb85 := NB326_325.out; have hnc85 := NB325_326.out; have hnb86 := NB326_347.out; have hnc86 := NB347_326.out; obtain ⟨hcz87_0, hcz87_1, hfz87_0, hfz87_1⟩ := cz2 BK326))
 refine bodyPost_ret (results_cell_row rfl _ _ gb326 42 #[.int .i64 t356, .int .i64 t357] (0, 0) _ rfl (bkp BK326) Try.underlying42 rfl (by kernel_rfl)) rfl ?_
 exact ⟨by first | rfl | (simp [errW_none, errW_some] <;> rfl) | (simp [*, errW_none, errW_some] <;> rfl), hzs HB⟩


/-! ### impl_SpotSquare: function 32 -/
def impl_SpotSquare.f (k : Nat) (a0_0 : Int) (a0_1 : Int) (a1_0 : Int) (a1_1 : Int) : Option (Int × Int × Bool) := (impl_SpotOk.f a0_0 a0_1).bind fun t418 => (if t418 = true then ((impl_SpotOk.f a1_0 a1_1).bind fun t419 => (if t419 = true then ((impl_square.f k a0_0 a0_1 a1_0 a1_1).bind fun bt420 => (some (bt420.1, bt420.2, true))) else (some (0, 0, false)))) else (some (0, 0, false)))
set_option maxHeartbeats 8000000 in
set_option maxRecDepth 100000 in
theorem impl_SpotSquare.calls (k : Nat) (a0_0 : Int) (a0_1 : Int) (a1_0 : Int) (a1_1 : Int) (r1 : Int) (r2 : Int) (r3 : Bool) (w : World) (h : impl_SpotSquare.f k a0_0 a0_1 a1_0 a1_1 = some (r1, r2, r3)) :
  Calls Try.prog 32 #[.agg #[.int .i64 a0_0, .int .i64 a0_1], .agg #[.int .i64 a1_0, .int .i64 a1_1]] w fun e w' => e = .returned (.tuple #[.agg #[.int .i64 r1, .int .i64 r2], .bool r3]) ∧ Below w.heap.size w w' := by
 have hu24 := Try.underlying24
 have hu42 := Try.underlying42
 have HB := Aside0.mk (Below.refl w.heap.size w)
 have H : ((impl_SpotOk.f a0_0 a0_1).bind fun t418 => (if t418 = true then ((impl_SpotOk.f a1_0 a1_1).bind fun t419 => (if t419 = true then ((impl_square.f k a0_0 a0_1 a1_0 a1_1).bind fun bt420 => (some (bt420.1, bt420.2, true))) else (some (0, 0, false)))) else (some (0, 0, false)))) = some (r1, r2, r3) := h
 clear h
 replace H := Option.bind_eq_some_iff.mp H
 obtain ⟨t418, A30, H⟩ := H
 try dsimp only at H
 have A3 := Aside0.mk A30
 clear A30
 by_cases c4 : t418 = true
 ·subst c4
  have H1 : ((impl_SpotOk.f a1_0 a1_1).bind fun t419 => (if t419 = true then ((impl_square.f k a0_0 a0_1 a1_0 a1_1).bind fun bt420 => (some (bt420.1, bt420.2, true))) else (some (0, 0, false)))) = some (r1, r2, r3) := by rw [if_pos rfl] at H; exact H
  clear H
  have H := H1
  clear H1
  replace H := Option.bind_eq_some_iff.mp H
  obtain ⟨t419, A50, H⟩ := H
  try dsimp only at H
  have A5 := Aside0.mk A50
  clear A50
  by_cases c6 : t419 = true
  ·subst c6
   have H1 : ((impl_square.f k a0_0 a0_1 a1_0 a1_1).bind fun bt420 => (some (bt420.1, bt420.2, true))) = some (r1, r2, r3) := by rw [if_pos rfl] at H; exact H
   clear H
   have H := H1
   clear H1
   replace H := Option.bind_eq_some_iff.mp H
   obtain ⟨⟨t420, t421⟩, A70, H⟩ := H
   try dsimp only at H
   have A7 := Aside0.mk A70
   clear A70
   simp only [Option.some.injEq, Prod.mk.injEq] at H
   obtain ⟨rfl, rfl, rfl⟩ := H
   go_enter Try.func32, Try.ntmps32
   go_wp2_with (first | ((with_reducible refine gate_dst (N := 2) rfl ?_); refine bE 2 #[.int .i64 a0_0, .int .i64 a0_1] 24 ?_; intro gb415 hg w8 hbox hb; have BK415 := Aside0.mk (hbox); have GE415 := gw hg (hz0 HB); have GW415 := GE415; replace HB := hbb (hz0 HB) hb; clear hb hbox hg) | ((with_reducible refine gate_dst (N := 3) rfl ?_); refine bE 3 #[.int .i64 a1_0, .int .i64 a1_1] 24 ?_; intro gb416 hg w9 hbox hb; have BK416 := Aside0.mk (hbox); have GE416 := gw hg (hzs HB); have GW416 := GE416; have NB415_416 := nl hg (bk BK415); have NB416_415 := ng hg (bk BK415); replace BK415 := bb (bk BK415) hb; replace HB := hbb (hzs HB) hb; clear hb hbox hg) | ((with_reducible refine gate_dst (N := 4) rfl ?_); refine bE 4 #[.int .i64 0, .int .i64 0] 42 ?_; intro gb417 hg w10 hbox hb; have BK417 := Aside0.mk (hbox); have GE417 := gw hg (hzs HB); have GW417 := GE417; have NB415_417 := nl hg (bk BK415); have NB417_415 := ng hg (bk BK415); have NB416_417 := nl hg (bk BK416); have NB417_416 := ng hg (bk BK416); replace BK415 := bb (bk BK415) hb; replace BK416 := bb (bk BK416) hb; replace HB := hbb (hzs HB) hb; clear hb hbox hg; have hnb11 := NB415_416.out; have hnc11 := NB416_415.out; have hnb12 := NB415_417.out; have hnc12 := NB417_415.out; obtain ⟨hcz13_0, hcz13_1, hfz13_0, hfz13_1⟩ := cz2 BK415) | ((with_reducible refine gate_callee (f := 21) rfl ?_); refine gL 7 Try.func21 #[.agg #[.int .i64 a0_0, .int .i64 a0_1]] ?_; (with_reducible refine (impl_SpotOk.calls a0_0 a0_1 true _ A3.out).mono ?_); rintro e w14 ⟨rfl, hb⟩; refine ⟨_, rfl, ?_⟩; replace BK415 := bb (bk BK415) hb; replace BK416 := bb (bk BK416) hb; replace BK417 := bb (bk BK417) hb; replace HB := hbb (hzs HB) hb; clear hb; have hnb15 := NB416_417.out; have hnc15 := NB417_416.out; obtain ⟨hcz16_0, hcz16_1, hfz16_0, hfz16_1⟩ := cz2 BK416) | (go_at_call 21; (with_reducible refine (impl_SpotOk.calls a1_0 a1_1 true _ A5.out).mono ?_); rintro e w17 ⟨rfl, hb⟩; replace BK415 := bb (bk BK415) hb; replace BK416 := bb (bk BK416) hb; replace BK417 := bb (bk BK417) hb; replace HB := hbb (hzs HB) hb; clear hb; obtain ⟨hcz18_0, hcz18_1, hfz18_0, hfz18_1⟩ := cz2 BK415; obtain ⟨hcz19_0, hcz19_1, hfz19_0, hfz19_1⟩ := cz2 BK416) | ((with_reducible refine gate_callee (f := 47) rfl ?_); refine gL 17 Try.func47 #[.agg #[.int .i64 a0_0, .int .i64 a0_1], .agg #[.int .i64 a1_0, .int .i64 a1_1]] ?_; (with_reducible refine (impl_square.calls k a0_0 a0_1 a1_0 a1_1 t420 t421 _ A7.out).mono ?_); rintro e w20 ⟨rfl, hb⟩; refine ⟨_, rfl, ?_⟩; replace BK415 := bb (bk BK415) hb; replace BK416 := bb (bk BK416) hb; replace BK417 := bb (bk BK417) hb; replace HB := hbb (hzs HB) hb; clear hb; obtain ⟨hcz21_0, hcz21_1, hfz21_0, hfz21_1⟩ := cz2 BK417))
   refine bodyPost_ret (results_ct rfl _ _ gb417 42 #[.int .i64 t420, .int .i64 t421] (0, 0) _ rfl (bkp BK417) Try.underlying42 rfl (by kernel_rfl)) rfl ?_
   exact ⟨by first | rfl | (simp [errW_none, errW_some] <;> rfl) | (simp [*, errW_none, errW_some] <;> rfl), hzs HB⟩
  ·replace c6 := Bool.eq_false_iff.mpr c6
   subst c6
   have H1 : (some (0, 0, false)) = some (r1, r2, r3) := by rw [if_neg (show ¬ (false = true) by decide)] at H; exact H
   clear H
   have H := H1
   clear H1
   simp only [Option.some.injEq, Prod.mk.injEq] at H
   obtain ⟨rfl, rfl, rfl⟩ := H
   go_enter Try.func32, Try.ntmps32
   go_wp2_with (first | ((with_reducible refine gate_dst (N := 2) rfl ?_); refine bE 2 #[.int .i64 a0_0, .int .i64 a0_1] 24 ?_; intro gb415 hg w22 hbox hb; have BK415 := Aside0.mk (hbox); have GE415 := gw hg (hz0 HB); have GW415 := GE415; replace HB := hbb (hz0 HB) hb; clear hb hbox hg) | ((with_reducible refine gate_dst (N := 3) rfl ?_); refine bE 3 #[.int .i64 a1_0, .int .i64 a1_1] 24 ?_; intro gb416 hg w23 hbox hb; have BK416 := Aside0.mk (hbox); have GE416 := gw hg (hzs HB); have GW416 := GE416; have NB415_416 := nl hg (bk BK415); have NB416_415 := ng hg (bk BK415); replace BK415 := bb (bk BK415) hb; replace HB := hbb (hzs HB) hb; clear hb hbox hg) | ((with_reducible refine gate_dst (N := 4) rfl ?_); refine bE 4 #[.int .i64 0, .int .i64 0] 42 ?_; intro gb417 hg w24 hbox hb; have BK417 := Aside0.mk (hbox); have GE417 := gw hg (hzs HB); have GW417 := GE417; have NB415_417 := nl hg (bk BK415); have NB417_415 := ng hg (bk BK415); have NB416_417 := nl hg (bk BK416); have NB417_416 := ng hg (bk BK416); replace BK415 := bb (bk BK415) hb; replace BK416 := bb (bk BK416) hb; replace HB := hbb (hzs HB) hb; clear hb hbox hg; have hnb25 := NB415_416.out; have hnc25 := NB416_415.out; have hnb26 := NB415_417.out; have hnc26 := NB417_415.out; obtain ⟨hcz27_0, hcz27_1, hfz27_0, hfz27_1⟩ := cz2 BK415) | ((with_reducible refine gate_callee (f := 21) rfl ?_); refine gL 7 Try.func21 #[.agg #[.int .i64 a0_0, .int .i64 a0_1]] ?_; (with_reducible refine (impl_SpotOk.calls a0_0 a0_1 true _ A3.out).mono ?_); rintro e w28 ⟨rfl, hb⟩; refine ⟨_, rfl, ?_⟩; replace BK415 := bb (bk BK415) hb; replace BK416 := bb (bk BK416) hb; replace BK417 := bb (bk BK417) hb; replace HB := hbb (hzs HB) hb; clear hb; have hnb29 := NB416_417.out; have hnc29 := NB417_416.out; obtain ⟨hcz30_0, hcz30_1, hfz30_0, hfz30_1⟩ := cz2 BK416) | (go_at_call 21; (with_reducible refine (impl_SpotOk.calls a1_0 a1_1 false _ A5.out).mono ?_); rintro e w31 ⟨rfl, hb⟩; replace BK415 := bb (bk BK415) hb; replace BK416 := bb (bk BK416) hb; replace BK417 := bb (bk BK417) hb; replace HB := hbb (hzs HB) hb; clear hb; obtain ⟨hcz32_0, hcz32_1, hfz32_0, hfz32_1⟩ := cz2 BK417))
   refine bodyPost_ret (results_ct rfl _ _ gb417 42 #[.int .i64 0, .int .i64 0] (0, 0) _ rfl (bkp BK417) Try.underlying42 rfl (by kernel_rfl)) rfl ?_
   exact ⟨by first | rfl | (simp [errW_none, errW_some] <;> rfl) | (simp [*, errW_none, errW_some] <;> rfl), hzs HB⟩
 ·replace c4 := Bool.eq_false_iff.mpr c4
  subst c4
  have H1 : (some (0, 0, false)) = some (r1, r2, r3) := by rw [if_neg (show ¬ (false = true) by decide)] at H; exact H
  clear H
  have H := H1
  clear H1
  simp only [Option.some.injEq, Prod.mk.injEq] at H
  obtain ⟨rfl, rfl, rfl⟩ := H
  go_enter Try.func32, Try.ntmps32
  go_wp2_with (first | ((with_reducible refine gate_dst (N := 2) rfl ?_); refine bE 2 #[.int .i64 a0_0, .int .i64 a0_1] 24 ?_; intro gb415 hg w33 hbox hb; have BK415 := Aside0.mk (hbox); have GE415 := gw hg (hz0 HB); have GW415 := GE415; replace HB := hbb (hz0 HB) hb; clear hb hbox hg) | ((with_reducible refine gate_dst (N := 3) rfl ?_); refine bE 3 #[.int .i64 a1_0, .int .i64 a1_1] 24 ?_; intro gb416 hg w34 hbox hb; have BK416 := Aside0.mk (hbox); have GE416 := gw hg (hzs HB); have GW416 := GE416; have NB415_416 := nl hg (bk BK415); have NB416_415 := ng hg (bk BK415); replace BK415 := bb (bk BK415) hb; replace HB := hbb (hzs HB) hb; clear hb hbox hg) | ((with_reducible refine gate_dst (N := 4) rfl ?_); refine bE 4 #[.int .i64 0, .int .i64 0] 42 ?_; intro gb417 hg w35 hbox hb; have BK417 := Aside0.mk (hbox); have GE417 := gw hg (hzs HB); have GW417 := GE417; have NB415_417 := nl hg (bk BK415); have NB417_415 := ng hg (bk BK415); have NB416_417 := nl hg (bk BK416); have NB417_416 := ng hg (bk BK416); replace BK415 := bb (bk BK415) hb; replace BK416 := bb (bk BK416) hb; replace HB := hbb (hzs HB) hb; clear hb hbox hg; have hnb36 := NB415_416.out; have hnc36 := NB416_415.out; have hnb37 := NB415_417.out; have hnc37 := NB417_415.out; obtain ⟨hcz38_0, hcz38_1, hfz38_0, hfz38_1⟩ := cz2 BK415) | ((with_reducible refine gate_callee (f := 21) rfl ?_); refine gL 7 Try.func21 #[.agg #[.int .i64 a0_0, .int .i64 a0_1]] ?_; (with_reducible refine (impl_SpotOk.calls a0_0 a0_1 false _ A3.out).mono ?_); rintro e w39 ⟨rfl, hb⟩; refine ⟨_, rfl, ?_⟩; replace BK415 := bb (bk BK415) hb; replace BK416 := bb (bk BK416) hb; replace BK417 := bb (bk BK417) hb; replace HB := hbb (hzs HB) hb; clear hb; have hnb40 := NB417_416.out; have hnc40 := NB416_417.out; obtain ⟨hcz41_0, hcz41_1, hfz41_0, hfz41_1⟩ := cz2 BK417))
  refine bodyPost_ret (results_ct rfl _ _ gb417 42 #[.int .i64 0, .int .i64 0] (0, 0) _ rfl (bkp BK417) Try.underlying42 rfl (by kernel_rfl)) rfl ?_
  exact ⟨by first | rfl | (simp [errW_none, errW_some] <;> rfl) | (simp [*, errW_none, errW_some] <;> rfl), hzs HB⟩


end Go.Proofs.Ytmcippkpgmehdaa.M
