import Derived.Test.YtlodpfddimeffaaM0
import Derived.Test.YtlodpfddimeffaaDa
import Derived.Test.YtlodpfddimeffaaDg
namespace Go.Proofs.Ytlodpfddimeffaa.M
open Go.RowKit Go.Proofs.YtlodpfddimeffaaW.PrintWords Go.Proofs.YtlodpfddimeffaaW.PrintLast Go.Proofs.YtlodpfddimeffaaW.PrintMore
attribute [local go_sem] max2_int min2_int max_two min_two max_three min_three max_four min_four
attribute [local go_sem high] eqA31
attribute [local go_sem] fld31_0 fld31_1 fld25_0 fld25_1 fld25_2 fld25_3
set_option linter.unusedVariables false
set_option linter.unusedSimpArgs false

/-! ### spec_DrawExprOk: function 30 -/
def spec_DrawExprOk.l0 : Nat → Int → List Int → Int → Int → Int → Int → List (S25) → Option (Int × Int × Int × (List (S25)))
 | 0, _, _, _, _, _, _, _ => none
 | k + 1, x5, x405000, x405001, x413000, x413001, x413002, x413003 => if x5 < 4 then ((spec_l6Rd_pick.f k x405000 x405001 3).bind fun bt415 => (spec_DrawExprOk.l0 k (wrap64 (x5 + 1)) x405000 bt415.2 7 0 0 (([(⟨x413000, x413001, x413002, x413003⟩ : S25), (⟨1, 0, bt415.1, ([] : List (S25))⟩ : S25)] : List (S25))))) else (some (x413000, x413001, x413002, x413003))
def spec_DrawExprOk.f (k : Nat) (l0 : List Int) : Option (Int × Int × Int × (List (S25))) := (spec_l6Open.f l0).bind fun bt402 => ((spec_l71Bent.f k bt402.1 bt402.2 false).bind fun bt405 => ((spec_l6Rd_pick.f k bt402.1 bt405.2.2.2.2 3).bind fun bt413 => (if bt413.1 = 0 then (spec_DrawExprOk.l0 k 0 bt402.1 bt413.2 bt405.1 bt405.2.1 bt405.2.2.1 bt405.2.2.2.1) else (some (bt405.1, bt405.2.1, bt405.2.2.1, bt405.2.2.2.1)))))
set_option maxHeartbeats 8000000 in
set_option maxRecDepth 100000 in
theorem spec_DrawExprOk.calls (k : Nat) (A0 : Option Addr) (c0 : Nat) (l0 : List Int) (r1 : Int) (r2 : Int) (r3 : Int) (r4 : List (S25)) (w : World) (hr0 : Kd.C (Kd.int .u8) w A0 l0.length l0) (hc0 : l0.length ≤ c0) (h : spec_DrawExprOk.f k l0 = some (r1, r2, r3, r4)) :
  Calls Try.prog 30 #[.slice A0 l0.length c0] w fun e w' => ∃ v3_ : Value, e = .returned (.agg #[.int .i64 r1, .int .i64 r2, .int .i64 r3, v3_]) ∧ Kd.N k25 25 w' w.heap.size (fun k_ => (w.heap.size ≤ k_)) v3_ r4 ∧ Below w.heap.size w w' := by
 have hu25 := Try.underlying25
 have HR0 := Aside0.mk hr0
 have HC0 := Aside0.mk hc0
 clear hr0 hc0
 have HB := Aside0.mk (Below.refl w.heap.size w)
 have H : ((spec_l6Open.f l0).bind fun bt402 => ((spec_l71Bent.f k bt402.1 bt402.2 false).bind fun bt405 => ((spec_l6Rd_pick.f k bt402.1 bt405.2.2.2.2 3).bind fun bt413 => (if bt413.1 = 0 then (spec_DrawExprOk.l0 k 0 bt402.1 bt413.2 bt405.1 bt405.2.1 bt405.2.2.1 bt405.2.2.2.1) else (some (bt405.1, bt405.2.1, bt405.2.2.1, bt405.2.2.2.1)))))) = some (r1, r2, r3, r4) := h
 clear h
 replace H := Option.bind_eq_some_iff.mp H
 obtain ⟨⟨t402, t403⟩, A20, H⟩ := H
 try dsimp only at H
 have A2 := Aside0.mk A20
 clear A20
 replace H := Option.bind_eq_some_iff.mp H
 obtain ⟨⟨t405, t406, t407, t408, t411⟩, A30, H⟩ := H
 try dsimp only at H
 have A3 := Aside0.mk A30
 clear A30
 replace H := Option.bind_eq_some_iff.mp H
 obtain ⟨⟨t413, t414⟩, A40, H⟩ := H
 try dsimp only at H
 have A4 := Aside0.mk A40
 clear A40
 by_cases c5 : t413 = 0
 ·rw [if_pos c5] at H
  have c5b0 : (t413 == 0) = true := beq_iff_eq.mpr c5
  have c5b1 : (t413 != 0) = false := bne_eq_false_iff_eq.mpr c5
  clear c5
  have H' := Aside0.mk H
  clear H
  go_enter Try.func30, Try.ntmps30
  go_wp2_with (first | ((with_reducible refine gate_dst (N := 2) rfl ?_); refine bE 2 #[.int .i64 0, .int .i64 0, .int .i64 0, .slice none 0 0] 25 ?_; intro gb401 hg w6 hbox hb; have BK401 := Aside0.mk (hbox); have GE401 := gw hg (hz0 HB); have GW401 := GE401; replace HB := hbb (hz0 HB) hb; clear hb hbox hg) | ((with_reducible refine gate_callee (f := 36) rfl ?_); refine gL 7 Try.func36 #[.slice A0 l0.length c0] ?_; (with_reducible refine (spec_l6Open.calls _ _ l0 t402 t403 w _ ?side1 ?side2 ?side3 A2.out).mono ?_); (case side1 => exact hzs HB); (case side2 => exact HR0.out); (case side3 => exact HC0.out); rintro e w7 ⟨g404, rfl, hi, hb, hb2⟩; refine ⟨_, rfl, ?_⟩; have HI404 := Aside0.mk (hi); have NB404_401 := Aside0.mk (IsS72.ne_blk hi (blk_below (g := gb401) (o := .cells #[.int .i64 0, .int .i64 0, .int .i64 0, .slice none 0 0] 25 (0, 0)) (bk BK401) hb2) (by decide)); have NB401_404 := Aside0.mk (Ne.symm (IsS72.ne_blk hi (blk_below (g := gb401) (o := .cells #[.int .i64 0, .int .i64 0, .int .i64 0, .slice none 0 0] 25 (0, 0)) (bk BK401) hb2) (by decide))); replace BK401 := Aside0.mk (blk_below (g := gb401) (o := .cells #[.int .i64 0, .int .i64 0, .int .i64 0, .slice none 0 0] 25 (0, 0)) (bk BK401) hb2); replace HB := Aside0.mk (hb); (try clear hb); (try clear hb2); (try clear hk); (try clear hi)) | ((with_reducible refine gate_callee (f := 37) rfl ?_); refine gL 9 Try.func37 #[.pointer (some ⟨g404, 0, none⟩), .bool false] ?_; (with_reducible refine (spec_l71Bent.calls k g404 t402 t403 false t405 t406 t407 t408 t411 w _ ?side1 ?side2 A3.out).mono ?_); (case side1 => exact IsS72.go_ HI404); (case side2 => exact hzI HB); rintro e w8 ⟨v409, rfl, ho0, hi, hb, hk⟩; refine ⟨_, rfl, ?_⟩; have HO410 := Aside0.mk (Kd.N_lower (Kd.N_mono (ok' := fun k_ => (w.heap.size ≤ k_) ∧ k_ ≠ gb401 ∧ k_ ≠ g404) ho0 (fun k_ hk_ => ⟨(Nat.le_trans (below_size (hzI HB)) hk_), (Kd.freshB (g := gb401) (o := .cells #[.int .i64 0, .int .i64 0, .int .i64 0, .slice none 0 0] 25 (0, 0)) (bk BK401) k_ hk_), (IsS72.fresh (IsS72.go_ HI404) k_ hk_)⟩)) (below_size (hzI HB))); replace BK401 := kb hk (bk BK401) NB401_404; replace HB := Aside0.mk (hb); replace HI404 := Aside0.mk (hi); (try clear hb); (try clear hb2); (try clear hk); (try clear hi); (try clear ho0)) | ((with_reducible refine gate_dst (N := 4) rfl ?_); refine bE 4 #[.int .i64 0, .int .i64 0, .int .i64 0, .slice none 0 0] 25 ?_; intro gb412 hg w9 hbox hb; have BK412 := Aside0.mk (hbox); have GE412 := gw hg (hzI HB); have GW412 := GE412; have NB401_412 := nl hg (bk BK401); have NB412_401 := ng hg (bk BK401); have NB404_412 := nL hg (IsS72.lt (show IsS72 w _ g404 t402 t411 from IsS72.go_ HI404)); have NB412_404 := nG hg (IsS72.lt (show IsS72 w _ g404 t402 t411 from IsS72.go_ HI404)); replace HO410 := Aside0.mk (Kd.N_below (Kd.N_elderB (by (with_reducible repeat (first | apply Kd.N_alloc | apply Kd.N_drewN | apply Kd.N_drew)); exact HO410.out) gb412 (Nat.le_of_eq hg.symm)) hb); replace BK401 := bb (bk BK401) hb; replace HI404 := Aside0.mk (IsS72.below (IsS72.go_ HI404) hb); replace HB := hbb (hzI HB) hb; clear hb hbox hg; have hnb10 := NB412_401.out; have hnc10 := NB401_412.out; have hnb11 := NB412_404.out; have hnc11 := NB404_412.out; have hcz12_0 : w9.cell? ⟨gb412, 0, none⟩ = some (.int .i64 0) := (blk_cell BK412.out 0).trans rfl; have hcz12_1 : w9.cell? ⟨gb412, 1, none⟩ = some (.int .i64 0) := (blk_cell BK412.out 1).trans rfl; have hcz12_2 : w9.cell? ⟨gb412, 2, none⟩ = some (.int .i64 0) := (blk_cell BK412.out 2).trans rfl; have hcz12_3 : w9.cell? ⟨gb412, 3, none⟩ = some (.slice none 0 0) := (blk_cell BK412.out 3).trans rfl; have hfz12_0 := blk_frozen BK412.out 0; have hfz12_1 := blk_frozen BK412.out 1; have hfz12_2 := blk_frozen BK412.out 2; have hfz12_3 := blk_frozen BK412.out 3; obtain ⟨Ao13, co13, eo13⟩ := Kd.N_slice HO410.out; subst eo13) | ((with_reducible refine gate_callee (f := 38) rfl ?_); refine gL 11 Try.func38 #[.pointer (some ⟨g404, 0, none⟩), .int .i64 3] ?_; (with_reducible refine (spec_l6Rd_pick.calls k g404 t402 t411 3 t413 t414 w _ ?side1 ?side2 A4.out).mono ?_); (case side1 => exact IsS72.go_ HI404); (case side2 => exact hzI HB); rintro e w14 ⟨rfl, hi, hb, hk⟩; refine ⟨_, rfl, ?_⟩; replace BK401 := kb hk (bk1 BK401 NB401_412) NB401_404; replace HO410 := Aside0.mk (Kd.N_mono (Kd.N_keep (Kd.N_mono (ok := fun k_ => ((((w.heap.size ≤ k_)) ∧ (k_ ≠ gb401 ∧ k_ ≠ g404)) ∧ k_ ≠ gb412)) (by (with_reducible repeat (first | apply Kd.N_alloc | apply Kd.N_drewN | apply Kd.N_drew)); exact (Kd.N_mono (Kd.N_far (p := ⟨gb412, 3, none⟩) (Kd.N_far (p := ⟨gb412, 2, none⟩) (Kd.N_far (p := ⟨gb412, 1, none⟩) (Kd.N_far (p := ⟨gb412, 0, none⟩) (Kd.N_mono HO410.out (fun k_ hk => (⟨hk, hk.2⟩ : _ ∧ k_ ≠ gb412))) (fun _ hk => hk.2) (.int .i64 t405)) (fun _ hk => hk.2) (.int .i64 t406)) (fun _ hk => hk.2) (.int .i64 t407)) (fun _ hk => hk.2) (.slice Ao13 t408.length co13)) (fun _ h_ => h_.1))) (fun k_ hk_ => (⟨hk_, hk_.1.2.2⟩ : _ ∧ k_ ≠ g404))) hk (fun _ h => h.2)) (fun _ h => h.1)); replace BK412 := Aside0.mk (KeepBut.blk hk (g' := gb412) (o := .cells #[.int .i64 t405, .int .i64 t406, .int .i64 t407, .slice Ao13 t408.length co13] 25 (0, 0)) (by (with_reducible repeat (first | refine blk_drewN ?_ _ | refine blk_drew ?_ | refine blk_alloc ?_ _)); refine blk_put (cs := #[.int .i64 t405, .int .i64 t406, .int .i64 t407, .slice none 0 0]) ?_ 3 _ rfl; (with_reducible repeat (first | refine blk_drewN ?_ _ | refine blk_drew ?_ | refine blk_alloc ?_ _)); refine blk_put (cs := #[.int .i64 t405, .int .i64 t406, .int .i64 0, .slice none 0 0]) ?_ 2 _ rfl; (with_reducible repeat (first | refine blk_drewN ?_ _ | refine blk_drew ?_ | refine blk_alloc ?_ _)); refine blk_put (cs := #[.int .i64 t405, .int .i64 0, .int .i64 0, .slice none 0 0]) ?_ 1 _ rfl; (with_reducible repeat (first | refine blk_drewN ?_ _ | refine blk_drew ?_ | refine blk_alloc ?_ _)); refine blk_put (cs := #[.int .i64 0, .int .i64 0, .int .i64 0, .slice none 0 0]) ?_ 0 _ rfl; (with_reducible repeat (first | refine blk_drewN ?_ _ | refine blk_drew ?_ | refine blk_alloc ?_ _)); exact BK412.out) NB412_404.out (by simp)); replace HB := Aside0.mk (hb); replace HI404 := Aside0.mk (hi); clear hi hb hk))
  go_loopg [5] k (fun kq v5 w' => ∃ (x5_1 : Int) (x405001_1 : Int) (x413000_1 : Int) (x413001_1 : Int) (x413002_1 : Int) (x413003_1 : List (S25)) (u413003 : Value), v5 = .int .i64 x5_1 ∧ Aside0 (spec_DrawExprOk.l0 kq x5_1 t402 x405001_1 x413000_1 x413001_1 x413002_1 x413003_1 = some (r1, r2, r3, r4)) ∧ Aside0 (kq ≤ k) ∧ Aside0 (Kd.N k25 25 w' w.heap.size (fun k_ => (w.heap.size ≤ k_) ∧ k_ ≠ gb401 ∧ k_ ≠ gb412 ∧ k_ ≠ g404) u413003 x413003_1) ∧ Aside0 (w'.heap[gb401]? = some (.cells #[.int .i64 0, .int .i64 0, .int .i64 0, (.slice none 0 0)] 25 (0, 0))) ∧ Aside0 (w'.heap[gb412]? = some (.cells #[.int .i64 x413000_1, .int .i64 x413001_1, .int .i64 x413002_1, u413003] 25 (0, 0))) ∧ Aside0 (IsS72 w w' g404 t402 x405001_1) ∧ Aside0 (Below w.heap.size w w'))
  case atStart => exact ⟨(0), (t414), (t405), (t406), (t407), (t408), (.slice Ao13 t408.length co13), (by first | rfl | (simp; done) | (simp [*]; done)), H', ⟨Nat.le_refl _⟩, ⟨by (with_reducible repeat (first | apply Kd.N_alloc | apply Kd.N_drewN | apply Kd.N_drew)); exact Kd.N_mono HO410.out (fun _ hk => ⟨hk.1.1, ⟨hk.1.2.1, ⟨hk.2, hk.1.2.2⟩⟩⟩)⟩, ⟨bk BK401⟩, ⟨bk BK412⟩, ⟨IsS72.go_ HI404⟩, ⟨hzI HB⟩⟩
  case round =>
   clear H'
   try clear c1
   try clear p2
   try clear c3
   try clear c5
   try clear c5b0
   try clear c5b1
   try clear c10
   try clear c11
   try clear hcz12_0 hcz12_1 hcz12_2 hcz12_3
   try clear hfz12_0 hfz12_1 hfz12_2 hfz12_3
   obtain ⟨x5_1, x405001_1, x413000_1, x413001_1, x413002_1, x413003_1, u413003, rfl, HA, HK1, HO_413003, BK401, BK412, HI404, HB⟩ := hrel
   cases gk with
   | zero => exact absurd HA.out (by simp [spec_DrawExprOk.l0])
   | succ k1 =>
    have H := HA.out
    clear HA
    simp only [spec_DrawExprOk.l0] at H
    by_cases c15 : x5_1 < 4
    ·rw [if_pos c15] at H
     have c15b0 : decide (x5_1 < 4) = true := decide_eq_true c15
     clear c15
     replace H := Option.bind_eq_some_iff.mp H
     obtain ⟨⟨t415, t416⟩, A160, H⟩ := H
     try dsimp only at H
     have A16 := Aside0.mk A160
     clear A160
     obtain ⟨y417, hy417⟩ : ∃ y_ : List (S25), y_ = (([(⟨x413000_1, x413001_1, x413002_1, x413003_1⟩ : S25), (⟨1, 0, t415, ([] : List (S25))⟩ : S25)] : List (S25))) := ⟨_, rfl⟩
     replace H : (spec_DrawExprOk.l0 k1 (wrap64 (x5_1 + 1)) t402 t416 7 0 0 y417) = some (r1, r2, r3, r4) := by first | (rw [hy417]; with_reducible exact H) | (have H2_ := (Option.bind_some _ _).symm.trans H; rw [hy417]; with_reducible exact H2_) | (have H2_ := (Option.bind_some _ _).symm.trans H; with_reducible exact H2_) | with_reducible exact H | (rw [hy417]; exact H) | exact H
     have Ny417 := Aside0.mk hy417
     clear hy417
     have H' := Aside0.mk H
     clear H
     try go_wp2
     replace HO_413003 := Aside0.mk (Kd.N_drew HO_413003.out)
     replace BK401 := Aside0.mk (blk_drew BK401.out)
     replace BK412 := Aside0.mk (blk_drew BK412.out)
     replace HI404 := Aside0.mk (IsS72.drew HI404.out)
     replace HB := Aside0.mk (below_drew1 HB.out)
     refine start_ (n := 7) (S := fun w' => w'.cell? ⟨gb412, 0, none⟩ = some (.int .i64 x413000_1) ∧ w'.cell? ⟨gb412, 1, none⟩ = some (.int .i64 x413001_1) ∧ w'.cell? ⟨gb412, 2, none⟩ = some (.int .i64 x413002_1) ∧ w'.cell? ⟨gb412, 3, none⟩ = some (u413003)) (ds := [6]) #[false, false, false, false, false, false, false] (by kernel_rfl) rfl rfl ⟨cw0 BK412, cw1 BK412, (blk_cell BK412.out 2).trans rfl, (blk_cell BK412.out 3).trans rfl⟩ (fun hHeld => ?_)
     generalize wr.drew = w17 at HO_413003 BK401 BK412 HI404 HB hHeld ⊢
     refine pure_ (i := 1) (N := some 18) (v := ?_) (a' := ?_) #[false, true, false, false, false, false, false] rfl rfl (by kernel_rfl) (fun _ _ _ h => h) (Or.inl ⟨by rfl, ?_⟩) ?_ ?_
     rotate_left
     ·intro w'
      go_simp
      with_reducible rfl
     rotate_left
     ·simp only [Act.put, List.setIfInBounds_toArray, List.set_cons_zero, List.set_cons_succ, i64_w, i32_w]
      rfl
     refine take_ (i := 0) (N := some 17) (v := ?_) (a' := ?_) #[true, true, false, false, false, false, false] rfl rfl (by kernel_rfl) (fun _ _ _ h => h) (Or.inl ⟨by rfl, ?_⟩) hHeld ?_ ?_
     rotate_left
     ·rintro w' ⟨s0, s1, s2, s3⟩
      go_simp
      with_reducible rfl
     rotate_left
     ·simp only [Act.put, List.setIfInBounds_toArray, List.set_cons_zero, List.set_cons_succ, i64_w, i32_w]
      rfl
     refine one_ (i := 2) (N := some 19) #[true, true, true, false, false, false, false] rfl rfl (by kernel_rfl) (by decide) (fun K hK => ?_)
     refine gS Try.func38 #[.pointer (some ⟨g404, 0, none⟩), .int .i64 3] ?_
     with_reducible refine (spec_l6Rd_pick.calls k1 g404 t402 x405001_1 3 t415 t416 w _ ?side1 ?side2 A16.out).mono ?_
     (case side1 => exact IsS72.go_ HI404)
     (case side2 => exact hzI HB)
     rintro e w18 ⟨rfl, hi, hb, hk⟩
     refine ⟨_, rfl, ?_⟩
     replace HO_413003 := Aside0.mk (Kd.N_mono (Kd.N_keep (Kd.N_mono (ok := fun k_ => (((w.heap.size ≤ k_)) ∧ (k_ ≠ gb401 ∧ (k_ ≠ gb412 ∧ k_ ≠ g404)))) (by (with_reducible repeat (first | apply Kd.N_alloc | apply Kd.N_drewN | apply Kd.N_drew)); exact HO_413003.out) (fun k_ hk_ => (⟨hk_, hk_.2.2.2⟩ : _ ∧ k_ ≠ g404))) hk (fun _ h => h.2)) (fun _ h => h.1))
     replace BK401 := kb hk (bk BK401) NB401_404
     replace BK412 := kb hk (bk BK412) NB412_404
     replace HB := Aside0.mk (hb)
     replace HI404 := Aside0.mk (hi)
     clear hi hb hk
     obtain ⟨Ao19, co19, eo19⟩ := Kd.N_slice HO_413003.out
     (first | subst eo19 | (injection eo19 with f1_ f2_ f3_; have f4_ := f1_.symm; have f5_ := f3_.symm; clear f1_ f2_ f3_; subst f4_; subst f5_))
     refine hK.out _ _ ⟨cw0 BK412, cw1 BK412, (blk_cell BK412.out 2).trans rfl, (blk_cell BK412.out 3).trans rfl⟩ (fun hHeld => ?_)
     clear hK K
     refine nP ?_
     refine pure_ (i := 3) (N := some 20) (v := ?_) (a' := ?_) #[true, true, true, true, false, false, false] rfl rfl (by kernel_rfl) (fun _ _ _ h => h) (Or.inl ⟨by rfl, ?_⟩) ?_ ?_
     rotate_left
     ·intro w'
      go_simp
      with_reducible rfl
     rotate_left
     ·simp only [Act.put, List.setIfInBounds_toArray, List.set_cons_zero, List.set_cons_succ, i64_w, i32_w]
      rfl
     refine one_ (i := 4) (N := some 21) #[true, true, true, true, true, false, false] rfl rfl (by kernel_rfl) (by decide) (fun K hK => ?_)
     refine Kd.N_lit_step k25 _ 25 ?hg (N' := 21) ?hd (xs := ([(⟨x413000_1, x413001_1, x413002_1, x413003_1⟩ : S25), (⟨1, 0, t415, ([] : List (S25))⟩ : S25)] : List (S25))) (inner := [.int .i64 x413000_1, .int .i64 x413001_1, .int .i64 x413002_1, .slice Ao19 x413003_1.length co19, .int .i64 1, .int .i64 0, .int .i64 t415, .slice none 0 0]) (ok := (fun k_ => (w.heap.size ≤ k_) ∧ k_ ≠ gb401 ∧ k_ ≠ gb412 ∧ k_ ≠ g404)) (okp := (fun k_ => (w.heap.size ≤ k_) ∧ k_ ≠ gb401 ∧ k_ ≠ gb412 ∧ k_ ≠ g404)) ?hr ?hp (fun _ hk => hk) ((show ∀ k_, w18.heap.size ≤ k_ → (fun k_ => (w.heap.size ≤ k_) ∧ k_ ≠ gb401 ∧ k_ ≠ gb412 ∧ k_ ≠ g404) k_ from fun k_ hk => ⟨(Nat.le_trans (below_size (hzI HB)) hk), Kd.freshB (g := gb401) (o := .cells #[.int .i64 0, .int .i64 0, .int .i64 0, .slice none 0 0] 25 (0, 0)) (bk BK401) k_ hk, Kd.freshB (g := gb412) (o := .cells #[.int .i64 x413000_1, .int .i64 x413001_1, .int .i64 x413002_1, .slice Ao19 x413003_1.length co19] 25 (0, 0)) (bk BK412) k_ hk, IsS72.fresh (IsS72.go_ HI404) k_ hk⟩) _ (Nat.le_refl _)) (Below.refl _ _) (Nat.le_refl _) (by simp) ?_; (case hd => rfl); (case hg => rfl); (case hr => first | (go_simp; done) | (go_simp; rfl)); (case hp => exact (Reps.c4 (show Kd.FK k25 _ _ (⟨x413000_1, x413001_1, x413002_1, x413003_1⟩ : S25) [.int .i64 x413000_1, .int .i64 x413001_1, .int .i64 x413002_1, .slice Ao19 x413003_1.length co19] from (k25_mkF _ _ (⟨x413000_1, x413001_1, x413002_1, x413003_1⟩ : S25) (Kd.N_reads' (Kd.N_mono (ok' := (fun k_ => (w.heap.size ≤ k_) ∧ k_ ≠ gb401 ∧ k_ ≠ gb412 ∧ k_ ≠ g404)) (HO_413003.out) (fun k_ hk => ⟨hk.1, ⟨hk.2.1, ⟨hk.2.2.1, hk.2.2.2⟩⟩⟩))).2.1 (Kd.N_F (Kd.N_mono (ok' := (fun k_ => (w.heap.size ≤ k_) ∧ k_ ≠ gb401 ∧ k_ ≠ gb412 ∧ k_ ≠ g404)) (HO_413003.out) (fun k_ hk => ⟨hk.1, ⟨hk.2.1, ⟨hk.2.2.1, hk.2.2.2⟩⟩⟩))))) (Reps.c4 (show Kd.FK k25 _ _ (⟨1, 0, t415, ([] : List (S25))⟩ : S25) [.int .i64 1, .int .i64 0, .int .i64 t415, .slice none 0 0] from (k25_mkF _ _ (⟨1, 0, t415, ([] : List (S25))⟩ : S25) (Nat.le_refl _) (Kd.F_nil _ _ _))) (Reps.none _ _))))
     intro v418 w20 ho21 hb hg_ hnew_
     clear hg_ hnew_
     (first | rw [← Ny417.out] at ho21 | (simp only [Int.reduceToNat] at ho21; rw [← Ny417.out] at ho21))
     have n0_ := Aside0.mk (Kd.N_lower ho21 (below_size (hzI HB)))
     have n1_ := bb (bk BK401) hb
     have n2_ := bb (bk BK412) hb
     have n3_ := Aside0.mk (IsS72.below (IsS72.go_ HI404) hb)
     have n4_ := hbb (hzI HB) hb
     clear BK401
     clear BK412
     clear HI404
     clear HB
     clear HO_413003
     have HO419 := n0_
     have BK401 := n1_
     have BK412 := n2_
     have HI404 := n3_
     have HB := n4_
     clear n0_ n1_ n2_ n3_ n4_
     clear hb ho21
     obtain ⟨Ao22, co22, eo22⟩ := Kd.N_slice HO419.out
     (first | subst eo22 | (injection eo22 with f1_ f2_ f3_; have f4_ := f1_.symm; have f5_ := f3_.symm; clear f1_ f2_ f3_; subst f4_; subst f5_))
     refine hK.out _ _ ⟨cw0 BK412, cw1 BK412, (blk_cell BK412.out 2).trans rfl, (blk_cell BK412.out 3).trans rfl⟩ (fun hHeld => ?_)
     clear hK K
     refine nP ?_
     refine pure_ (i := 5) (N := some 22) (v := ?_) (a' := ?_) #[true, true, true, true, true, true, false] rfl rfl (by kernel_rfl) (fun _ _ _ h => h) (Or.inl ⟨by rfl, ?_⟩) ?_ ?_
     rotate_left
     ·intro w'
      go_simp
      with_reducible rfl
     rotate_left
     ·simp only [Act.put, List.setIfInBounds_toArray, List.set_cons_zero, List.set_cons_succ, i64_w, i32_w]
      rfl
     refine last_ (i := 6) (N := none) #[true, true, true, true, true, true, true] rfl rfl (by kernel_rfl) (by decide) (fun K hK => ?_)
     have hs23 : w20.cell? ⟨gb412, 0, none⟩ = some (.int .i64 x413000_1) := (blk_cell BK412.out 0).trans rfl
     have hfs23 := blk_frozen BK412.out 0
     have hns23_0 := NB401_412.out
     have hms23_0 := NB412_401.out
     have hs24 : w20.cell? ⟨gb412, 1, none⟩ = some (.int .i64 x413001_1) := (blk_cell BK412.out 1).trans rfl
     have hfs24 := blk_frozen BK412.out 1
     have hns24_0 := NB401_412.out
     have hms24_0 := NB412_401.out
     have hs25 : w20.cell? ⟨gb412, 2, none⟩ = some (.int .i64 x413002_1) := (blk_cell BK412.out 2).trans rfl
     have hfs25 := blk_frozen BK412.out 2
     have hns25_0 := NB401_412.out
     have hms25_0 := NB412_401.out
     have hs26 : w20.cell? ⟨gb412, 3, none⟩ = some (.slice Ao19 x413003_1.length co19) := (blk_cell BK412.out 3).trans rfl
     have hfs26 := blk_frozen BK412.out 3
     have hns26_0 := NB401_412.out
     have hms26_0 := NB412_401.out
     refine skip_ (w1 := ?_) (by rfl) rfl ?_ ?_
     rotate_left
     ·go_simp
      rfl
     refine hK.out _ _ ?_
     clear hK K
     refine done_ (by kernel_rfl) ?_
     try go_wp2
     go_roundg k1
     case measure => have := HK1.out; omega
     case rel => exact ⟨(wrap64 (x5_1 + 1)), (t416), (7), (0), (0), (y417), (.slice Ao22 y417.length co22), (by first | rfl | (simp; done) | (simp [*]; done)), H', ⟨by have := HK1.out; omega⟩, ⟨by (with_reducible repeat (first | apply Kd.N_alloc | apply Kd.N_drewN | apply Kd.N_drew)); exact Kd.N_mono (Kd.N_far (p := ⟨gb412, 3, none⟩) (Kd.N_far (p := ⟨gb412, 2, none⟩) (Kd.N_far (p := ⟨gb412, 1, none⟩) (Kd.N_far (p := ⟨gb412, 0, none⟩) (Kd.N_mono HO419.out (fun k_ hk => (⟨hk, hk.2.2.1⟩ : _ ∧ k_ ≠ gb412))) (fun _ hk => hk.2) (.int .i64 7)) (fun _ hk => hk.2) (.int .i64 0)) (fun _ hk => hk.2) (.int .i64 0)) (fun _ hk => hk.2) (.slice Ao22 y417.length co22)) (fun _ hk => ⟨hk.1.1, ⟨hk.1.2.1, ⟨hk.1.2.2.1, hk.1.2.2.2⟩⟩⟩)⟩, ⟨bk1 BK401 NB401_412⟩, ⟨by (with_reducible repeat (first | refine blk_drewN ?_ _ | refine blk_drew ?_ | refine blk_alloc ?_ _)); refine blk_put (cs := #[.int .i64 7, .int .i64 0, .int .i64 0, .slice Ao19 x413003_1.length co19]) ?_ 3 _ rfl; (with_reducible repeat (first | refine blk_drewN ?_ _ | refine blk_drew ?_ | refine blk_alloc ?_ _)); refine blk_put (cs := #[.int .i64 7, .int .i64 0, .int .i64 x413002_1, .slice Ao19 x413003_1.length co19]) ?_ 2 _ rfl; (with_reducible repeat (first | refine blk_drewN ?_ _ | refine blk_drew ?_ | refine blk_alloc ?_ _)); refine blk_put (cs := #[.int .i64 7, .int .i64 x413001_1, .int .i64 x413002_1, .slice Ao19 x413003_1.length co19]) ?_ 1 _ rfl; (with_reducible repeat (first | refine blk_drewN ?_ _ | refine blk_drew ?_ | refine blk_alloc ?_ _)); refine blk_put (cs := #[.int .i64 x413000_1, .int .i64 x413001_1, .int .i64 x413002_1, .slice Ao19 x413003_1.length co19]) ?_ 0 _ rfl; (with_reducible repeat (first | refine blk_drewN ?_ _ | refine blk_drew ?_ | refine blk_alloc ?_ _)); exact BK412.out⟩, ⟨IsS72.go_ HI404⟩, ⟨hzI HB⟩⟩
    ·rw [if_neg c15] at H
     have c15b0 : decide (x5_1 < 4) = false := decide_eq_false c15
     clear c15
     simp only [Option.some.injEq, Prod.mk.injEq] at H
     obtain ⟨rfl, rfl, rfl, rfl⟩ := H
     have hnb27 := NB412_401.out
     have hnc27 := NB401_412.out
     have hnb28 := NB412_404.out
     have hnc28 := NB404_412.out
     have hcz29_0 : wr.cell? ⟨gb412, 0, none⟩ = some (.int .i64 x413000_1) := (blk_cell BK412.out 0).trans rfl
     have hcz29_1 : wr.cell? ⟨gb412, 1, none⟩ = some (.int .i64 x413001_1) := (blk_cell BK412.out 1).trans rfl
     have hcz29_2 : wr.cell? ⟨gb412, 2, none⟩ = some (.int .i64 x413002_1) := (blk_cell BK412.out 2).trans rfl
     have hcz29_3 : wr.cell? ⟨gb412, 3, none⟩ = some (u413003) := (blk_cell BK412.out 3).trans rfl
     have hfz29_0 := blk_frozen BK412.out 0
     have hfz29_1 := blk_frozen BK412.out 1
     have hfz29_2 := blk_frozen BK412.out 2
     have hfz29_3 := blk_frozen BK412.out 3
     have hnb30 := NB401_404.out
     have hnc30 := NB404_401.out
     have hcz31_0 : wr.cell? ⟨gb401, 0, none⟩ = some (.int .i64 0) := (blk_cell BK401.out 0).trans rfl
     have hcz31_1 : wr.cell? ⟨gb401, 1, none⟩ = some (.int .i64 0) := (blk_cell BK401.out 1).trans rfl
     have hcz31_2 : wr.cell? ⟨gb401, 2, none⟩ = some (.int .i64 0) := (blk_cell BK401.out 2).trans rfl
     have hcz31_3 : wr.cell? ⟨gb401, 3, none⟩ = some (.slice none 0 0) := (blk_cell BK401.out 3).trans rfl
     have hfz31_0 := blk_frozen BK401.out 0
     have hfz31_1 := blk_frozen BK401.out 1
     have hfz31_2 := blk_frozen BK401.out 2
     have hfz31_3 := blk_frozen BK401.out 3
     obtain ⟨Ao32, co32, eo32⟩ := Kd.N_slice HO_413003.out
     subst eo32
     go_wp2
     refine bodyPost_ret (results_cell_row rfl _ _ gb401 25 #[.int .i64 x413000_1, .int .i64 x413001_1, .int .i64 x413002_1, .slice Ao32 x413003_1.length co32] (0, 0) _ rfl (by (with_reducible repeat (first | refine blk_drewN ?_ _ | refine blk_drew ?_ | refine blk_alloc ?_ _)); refine blk_put (cs := #[.int .i64 x413000_1, .int .i64 x413001_1, .int .i64 x413002_1, .slice none 0 0]) ?_ 3 _ rfl; (with_reducible repeat (first | refine blk_drewN ?_ _ | refine blk_drew ?_ | refine blk_alloc ?_ _)); refine blk_put (cs := #[.int .i64 x413000_1, .int .i64 x413001_1, .int .i64 0, .slice none 0 0]) ?_ 2 _ rfl; (with_reducible repeat (first | refine blk_drewN ?_ _ | refine blk_drew ?_ | refine blk_alloc ?_ _)); refine blk_put (cs := #[.int .i64 x413000_1, .int .i64 0, .int .i64 0, .slice none 0 0]) ?_ 1 _ rfl; (with_reducible repeat (first | refine blk_drewN ?_ _ | refine blk_drew ?_ | refine blk_alloc ?_ _)); refine blk_put (cs := #[.int .i64 0, .int .i64 0, .int .i64 0, .slice none 0 0]) ?_ 0 _ rfl; (with_reducible repeat (first | refine blk_drewN ?_ _ | refine blk_drew ?_ | refine blk_alloc ?_ _)); exact BK401.out) Try.underlying25 rfl (by kernel_rfl)) rfl ?_
     exact ⟨_, by first | rfl | (simp [errW_none, errW_some] <;> rfl) | (simp [*, errW_none, errW_some] <;> rfl), by (with_reducible repeat (first | apply Kd.N_alloc | apply Kd.N_drewN | apply Kd.N_drew)); exact Kd.N_mono (Kd.N_far (p := ⟨gb401, 3, none⟩) (Kd.N_far (p := ⟨gb401, 2, none⟩) (Kd.N_far (p := ⟨gb401, 1, none⟩) (Kd.N_far (p := ⟨gb401, 0, none⟩) (Kd.N_mono HO_413003.out (fun k_ hk => (⟨hk, hk.2.1⟩ : _ ∧ k_ ≠ gb401))) (fun _ hk => hk.2) (.int .i64 x413000_1)) (fun _ hk => hk.2) (.int .i64 x413001_1)) (fun _ hk => hk.2) (.int .i64 x413002_1)) (fun _ hk => hk.2) (.slice Ao32 x413003_1.length co32)) (fun _ hk => hk.1.1), hzI HB⟩
 ·rw [if_neg c5] at H
  have c5b0 : (t413 == 0) = false := beq_eq_false_iff_ne.mpr c5
  have c5b1 : (t413 != 0) = true := bne_iff_ne.mpr c5
  simp only [Option.some.injEq, Prod.mk.injEq] at H
  obtain ⟨rfl, rfl, rfl, rfl⟩ := H
  go_enter Try.func30, Try.ntmps30
  go_wp2_with (first | ((with_reducible refine gate_dst (N := 2) rfl ?_); refine bE 2 #[.int .i64 0, .int .i64 0, .int .i64 0, .slice none 0 0] 25 ?_; intro gb401 hg w33 hbox hb; have BK401 := Aside0.mk (hbox); have GE401 := gw hg (hz0 HB); have GW401 := GE401; replace HB := hbb (hz0 HB) hb; clear hb hbox hg) | ((with_reducible refine gate_callee (f := 36) rfl ?_); refine gL 7 Try.func36 #[.slice A0 l0.length c0] ?_; (with_reducible refine (spec_l6Open.calls _ _ l0 t402 t403 w _ ?side1 ?side2 ?side3 A2.out).mono ?_); (case side1 => exact hzs HB); (case side2 => exact HR0.out); (case side3 => exact HC0.out); rintro e w34 ⟨g404, rfl, hi, hb, hb2⟩; refine ⟨_, rfl, ?_⟩; have HI404 := Aside0.mk (hi); have NB404_401 := Aside0.mk (IsS72.ne_blk hi (blk_below (g := gb401) (o := .cells #[.int .i64 0, .int .i64 0, .int .i64 0, .slice none 0 0] 25 (0, 0)) (bk BK401) hb2) (by decide)); have NB401_404 := Aside0.mk (Ne.symm (IsS72.ne_blk hi (blk_below (g := gb401) (o := .cells #[.int .i64 0, .int .i64 0, .int .i64 0, .slice none 0 0] 25 (0, 0)) (bk BK401) hb2) (by decide))); replace BK401 := Aside0.mk (blk_below (g := gb401) (o := .cells #[.int .i64 0, .int .i64 0, .int .i64 0, .slice none 0 0] 25 (0, 0)) (bk BK401) hb2); replace HB := Aside0.mk (hb); (try clear hb); (try clear hb2); (try clear hk); (try clear hi)) | ((with_reducible refine gate_callee (f := 37) rfl ?_); refine gL 9 Try.func37 #[.pointer (some ⟨g404, 0, none⟩), .bool false] ?_; (with_reducible refine (spec_l71Bent.calls k g404 t402 t403 false t405 t406 t407 t408 t411 w _ ?side1 ?side2 A3.out).mono ?_); (case side1 => exact IsS72.go_ HI404); (case side2 => exact hzI HB); rintro e w35 ⟨v409, rfl, ho0, hi, hb, hk⟩; refine ⟨_, rfl, ?_⟩; have HO410 := Aside0.mk (Kd.N_lower (Kd.N_mono (ok' := fun k_ => (w.heap.size ≤ k_) ∧ k_ ≠ gb401 ∧ k_ ≠ g404) ho0 (fun k_ hk_ => ⟨(Nat.le_trans (below_size (hzI HB)) hk_), (Kd.freshB (g := gb401) (o := .cells #[.int .i64 0, .int .i64 0, .int .i64 0, .slice none 0 0] 25 (0, 0)) (bk BK401) k_ hk_), (IsS72.fresh (IsS72.go_ HI404) k_ hk_)⟩)) (below_size (hzI HB))); replace BK401 := kb hk (bk BK401) NB401_404; replace HB := Aside0.mk (hb); replace HI404 := Aside0.mk (hi); (try clear hb); (try clear hb2); (try clear hk); (try clear hi); (try clear ho0)) | ((with_reducible refine gate_dst (N := 4) rfl ?_); refine bE 4 #[.int .i64 0, .int .i64 0, .int .i64 0, .slice none 0 0] 25 ?_; intro gb412 hg w36 hbox hb; have BK412 := Aside0.mk (hbox); have GE412 := gw hg (hzI HB); have GW412 := GE412; have NB401_412 := nl hg (bk BK401); have NB412_401 := ng hg (bk BK401); have NB404_412 := nL hg (IsS72.lt (show IsS72 w _ g404 t402 t411 from IsS72.go_ HI404)); have NB412_404 := nG hg (IsS72.lt (show IsS72 w _ g404 t402 t411 from IsS72.go_ HI404)); replace HO410 := Aside0.mk (Kd.N_below (Kd.N_elderB (by (with_reducible repeat (first | apply Kd.N_alloc | apply Kd.N_drewN | apply Kd.N_drew)); exact HO410.out) gb412 (Nat.le_of_eq hg.symm)) hb); replace BK401 := bb (bk BK401) hb; replace HI404 := Aside0.mk (IsS72.below (IsS72.go_ HI404) hb); replace HB := hbb (hzI HB) hb; clear hb hbox hg; have hnb37 := NB412_401.out; have hnc37 := NB401_412.out; have hnb38 := NB412_404.out; have hnc38 := NB404_412.out; have hcz39_0 : w36.cell? ⟨gb412, 0, none⟩ = some (.int .i64 0) := (blk_cell BK412.out 0).trans rfl; have hcz39_1 : w36.cell? ⟨gb412, 1, none⟩ = some (.int .i64 0) := (blk_cell BK412.out 1).trans rfl; have hcz39_2 : w36.cell? ⟨gb412, 2, none⟩ = some (.int .i64 0) := (blk_cell BK412.out 2).trans rfl; have hcz39_3 : w36.cell? ⟨gb412, 3, none⟩ = some (.slice none 0 0) := (blk_cell BK412.out 3).trans rfl; have hfz39_0 := blk_frozen BK412.out 0; have hfz39_1 := blk_frozen BK412.out 1; have hfz39_2 := blk_frozen BK412.out 2; have hfz39_3 := blk_frozen BK412.out 3; obtain ⟨Ao40, co40, eo40⟩ := Kd.N_slice HO410.out; subst eo40) | ((with_reducible refine gate_callee (f := 38) rfl ?_); refine gL 11 Try.func38 #[.pointer (some ⟨g404, 0, none⟩), .int .i64 3] ?_; (with_reducible refine (spec_l6Rd_pick.calls k g404 t402 t411 3 t413 t414 w _ ?side1 ?side2 A4.out).mono ?_); (case side1 => exact IsS72.go_ HI404); (case side2 => exact hzI HB); rintro e w41 ⟨rfl, hi, hb, hk⟩; refine ⟨_, rfl, ?_⟩; replace BK401 := kb hk (bk1 BK401 NB401_412) NB401_404; replace HO410 := Aside0.mk (Kd.N_mono (Kd.N_keep (Kd.N_mono (ok := fun k_ => ((((w.heap.size ≤ k_)) ∧ (k_ ≠ gb401 ∧ k_ ≠ g404)) ∧ k_ ≠ gb412)) (by (with_reducible repeat (first | apply Kd.N_alloc | apply Kd.N_drewN | apply Kd.N_drew)); exact (Kd.N_mono (Kd.N_far (p := ⟨gb412, 3, none⟩) (Kd.N_far (p := ⟨gb412, 2, none⟩) (Kd.N_far (p := ⟨gb412, 1, none⟩) (Kd.N_far (p := ⟨gb412, 0, none⟩) (Kd.N_mono HO410.out (fun k_ hk => (⟨hk, hk.2⟩ : _ ∧ k_ ≠ gb412))) (fun _ hk => hk.2) (.int .i64 t405)) (fun _ hk => hk.2) (.int .i64 t406)) (fun _ hk => hk.2) (.int .i64 t407)) (fun _ hk => hk.2) (.slice Ao40 t408.length co40)) (fun _ h_ => h_.1))) (fun k_ hk_ => (⟨hk_, hk_.1.2.2⟩ : _ ∧ k_ ≠ g404))) hk (fun _ h => h.2)) (fun _ h => h.1)); replace BK412 := Aside0.mk (KeepBut.blk hk (g' := gb412) (o := .cells #[.int .i64 t405, .int .i64 t406, .int .i64 t407, .slice Ao40 t408.length co40] 25 (0, 0)) (by (with_reducible repeat (first | refine blk_drewN ?_ _ | refine blk_drew ?_ | refine blk_alloc ?_ _)); refine blk_put (cs := #[.int .i64 t405, .int .i64 t406, .int .i64 t407, .slice none 0 0]) ?_ 3 _ rfl; (with_reducible repeat (first | refine blk_drewN ?_ _ | refine blk_drew ?_ | refine blk_alloc ?_ _)); refine blk_put (cs := #[.int .i64 t405, .int .i64 t406, .int .i64 0, .slice none 0 0]) ?_ 2 _ rfl; (with_reducible repeat (first | refine blk_drewN ?_ _ | refine blk_drew ?_ | refine blk_alloc ?_ _)); refine blk_put (cs := #[.int .i64 t405, .int .i64 0, .int .i64 0, .slice none 0 0]) ?_ 1 _ rfl; (with_reducible repeat (first | refine blk_drewN ?_ _ | refine blk_drew ?_ | refine blk_alloc ?_ _)); refine blk_put (cs := #[.int .i64 0, .int .i64 0, .int .i64 0, .slice none 0 0]) ?_ 0 _ rfl; (with_reducible repeat (first | refine blk_drewN ?_ _ | refine blk_drew ?_ | refine blk_alloc ?_ _)); exact BK412.out) NB412_404.out (by simp)); replace HB := Aside0.mk (hb); replace HI404 := Aside0.mk (hi); clear hi hb hk; have hcz42_0 : w41.cell? ⟨gb412, 0, none⟩ = some (.int .i64 t405) := (blk_cell BK412.out 0).trans rfl; have hcz42_1 : w41.cell? ⟨gb412, 1, none⟩ = some (.int .i64 t406) := (blk_cell BK412.out 1).trans rfl; have hcz42_2 : w41.cell? ⟨gb412, 2, none⟩ = some (.int .i64 t407) := (blk_cell BK412.out 2).trans rfl; have hcz42_3 : w41.cell? ⟨gb412, 3, none⟩ = some (.slice Ao40 t408.length co40) := (blk_cell BK412.out 3).trans rfl; have hfz42_0 := blk_frozen BK412.out 0; have hfz42_1 := blk_frozen BK412.out 1; have hfz42_2 := blk_frozen BK412.out 2; have hfz42_3 := blk_frozen BK412.out 3; have hnb43 := NB401_404.out; have hnc43 := NB404_401.out; have hcz44_0 : w41.cell? ⟨gb401, 0, none⟩ = some (.int .i64 0) := (blk_cell BK401.out 0).trans rfl; have hcz44_1 : w41.cell? ⟨gb401, 1, none⟩ = some (.int .i64 0) := (blk_cell BK401.out 1).trans rfl; have hcz44_2 : w41.cell? ⟨gb401, 2, none⟩ = some (.int .i64 0) := (blk_cell BK401.out 2).trans rfl; have hcz44_3 : w41.cell? ⟨gb401, 3, none⟩ = some (.slice none 0 0) := (blk_cell BK401.out 3).trans rfl; have hfz44_0 := blk_frozen BK401.out 0; have hfz44_1 := blk_frozen BK401.out 1; have hfz44_2 := blk_frozen BK401.out 2; have hfz44_3 := blk_frozen BK401.out 3))
  refine bodyPost_ret (results_cell_row rfl _ _ gb401 25 #[.int .i64 t405, .int .i64 t406, .int .i64 t407, .slice Ao40 t408.length co40] (0, 0) _ rfl (by (with_reducible repeat (first | refine blk_drewN ?_ _ | refine blk_drew ?_ | refine blk_alloc ?_ _)); refine blk_put (cs := #[.int .i64 t405, .int .i64 t406, .int .i64 t407, .slice none 0 0]) ?_ 3 _ rfl; (with_reducible repeat (first | refine blk_drewN ?_ _ | refine blk_drew ?_ | refine blk_alloc ?_ _)); refine blk_put (cs := #[.int .i64 t405, .int .i64 t406, .int .i64 0, .slice none 0 0]) ?_ 2 _ rfl; (with_reducible repeat (first | refine blk_drewN ?_ _ | refine blk_drew ?_ | refine blk_alloc ?_ _)); refine blk_put (cs := #[.int .i64 t405, .int .i64 0, .int .i64 0, .slice none 0 0]) ?_ 1 _ rfl; (with_reducible repeat (first | refine blk_drewN ?_ _ | refine blk_drew ?_ | refine blk_alloc ?_ _)); refine blk_put (cs := #[.int .i64 0, .int .i64 0, .int .i64 0, .slice none 0 0]) ?_ 0 _ rfl; (with_reducible repeat (first | refine blk_drewN ?_ _ | refine blk_drew ?_ | refine blk_alloc ?_ _)); exact BK401.out) Try.underlying25 rfl (by kernel_rfl)) rfl ?_
  exact ⟨_, by first | rfl | (simp [errW_none, errW_some] <;> rfl) | (simp [*, errW_none, errW_some] <;> rfl), by (with_reducible repeat (first | apply Kd.N_alloc | apply Kd.N_drewN | apply Kd.N_drew)); exact Kd.N_mono (Kd.N_far (p := ⟨gb401, 3, none⟩) (Kd.N_far (p := ⟨gb401, 2, none⟩) (Kd.N_far (p := ⟨gb401, 1, none⟩) (Kd.N_far (p := ⟨gb401, 0, none⟩) (Kd.N_mono HO410.out (fun k_ hk => (⟨hk, hk.1.2.1⟩ : _ ∧ k_ ≠ gb401))) (fun _ hk => hk.2) (.int .i64 t405)) (fun _ hk => hk.2) (.int .i64 t406)) (fun _ hk => hk.2) (.int .i64 t407)) (fun _ hk => hk.2) (.slice Ao40 t408.length co40)) (fun _ hk => hk.1.1.1), hzI HB⟩


end Go.Proofs.Ytlodpfddimeffaa.M
